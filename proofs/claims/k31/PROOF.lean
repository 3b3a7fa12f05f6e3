import PyProof.Rows.All
import Wide.All
import OpenK.AllK
import Wide.FinOn
import HandS.ForMost
import HandS.Exc
import HandS.TryOnly
import HandS.ExcOwn
import HandS.WordsExc
import HandS.CallSlots
import HandS.Deep
import HandS.TupAny
import HandS.SortInts
import HandS.Style
import HandS.IsInst
import HandS.Iter
import HandS.Defaults
import HandS.MakeKwOnly
import HandS.Dict
import KE.KDictDisplayH
import KE.KExcSuper
import HandS.ExcInit
import HandS.ExcField
import HandS.ExcSuper
import KE.KExcIs
import HandS.SetFor
import HandS.TupSets
import HandS.Strs
import HandS.Conv
import HandS.ReCall
import KE.KDictSum
import HandS.More
import PySem.Challenge.RW_tidyback_k31_limits_of_joined_programs
set_option Elab.async false
set_option linter.all false
set_option maxRecDepth 100000
set_option maxHeartbeats 8000000
namespace VL
open PySem PySem.Spec PyProof.Rows L2

/-! ## data and results -/
inductive Rs (α : Type) where
  | ok (a : α)
  | ex (c : Nat) (fs : List (Str × PyData))
  | no
def Rs.bind {α β : Type} : Rs α → (α → Rs β) → Rs β
  | .ok a, f => f a
  | .ex c fs, _ => .ex c fs
  | .no, _ => .no
@[simp] theorem Rs.bind_ok {α β : Type} (a : α) (f : α → Rs β) : (Rs.ok a).bind f = f a := rfl
@[simp] theorem Rs.bind_ex {α β : Type} (c fs) (f : α → Rs β) : (Rs.ex c fs : Rs α).bind f = .ex c fs := rfl
@[simp] theorem Rs.bind_no {α β : Type} (f : α → Rs β) : (Rs.no : Rs α).bind f = .no := rfl

/-- what an expression comes to: plain data; a list, a dict of its own (o), or borrowed of a slot (b); the script -/
inductive RV where
  | d (x : PyData)
  | ol (xs : List PyData) | bl (xs : List PyData)
  | od (kvs : List (Key × PyData)) | bd (kvs : List (Key × PyData))
  | ot (kvs : List (List Int × PyData)) | bt (kvs : List (List Int × PyData))
  | sc (ns : List Int)
  /-- a caught exception: where it lies, its dict, its class, its fields -/
  | xo (a dd : Addr) (c : Nat) (fs : List (Str × PyData))
  /-- a tuple of data, a frozen list and a frozen dict -/
  | t3 (x : PyData) (ys : List PyData) (kvs : List (Key × PyData))
  /-- a frozen dict -/
  | fd (kvs : List (Key × PyData))
abbrev VEnv := List (Option RV)

/-- no dict of its own stands behind a tuple -/
def NDT (K : PySem.W.Frag) (F : Hp) (a : Addr) : Prop := (∃ o u, F a = some (.frz o u) ∧ o.dict = none) ∨ ∃ o, K.lookup a = some o ∧ o.dict = none
def SqN (K : PySem.W.Frag) (F : Hp) (a : Addr) (xs : List V) : Prop := SqT K F a xs ∧ NDT K F a
mutual
inductive Dq (K : PySem.W.Frag) (F : Hp) : V → PyData → Prop
  | non : Dq K F .non .none
  | bl (b : Bool) : Dq K F (.bl b) (.bool b)
  | int (i : Int) : Dq K F (.int i) (.int i)
  | str (x : Str) : Dq K F (.str x) (.str x)
  | lst {a : Addr} {xs : List V} {ds : List PyData} : F a = some (.lst xs) → DqA K F xs ds → Dq K F (.ref a) (.list ds)
  | tup {a : Addr} {xs : List V} {ds : List PyData} : SqN K F a xs → DqA K F xs ds → Dq K F (.ref a) (.tuple ds)
inductive DqA (K : PySem.W.Frag) (F : Hp) : List V → List PyData → Prop
  | nil : DqA K F [] []
  | cons {v : V} {vs : List V} {d : PyData} {ds : List PyData} : Dq K F v d → DqA K F vs ds → DqA K F (v :: vs) (d :: ds)
end

theorem same_seqT {K : PySem.W.Frag} {H H' : Hp} {a : Addr} {xs : List V} (e : Same H H') (h : SqT K H a xs) : SqT K H' a xs := by
  rcases h with (h | ⟨o, h⟩) | h
  · exact .inl (.inl (e _ _ h))
  · exact .inl (.inr ⟨o, e _ _ h⟩)
  · exact .inr h

theorem same_seqN {K : PySem.W.Frag} {H H' : Hp} {a : Addr} {xs : List V} (e : Same H H') (h : SqN K H a xs) : SqN K H' a xs :=
  ⟨same_seqT e h.1, h.2.imp (fun ⟨o, u, h1, h2⟩ => ⟨o, u, e _ _ h1, h2⟩) id⟩
theorem SqN.frz {K : PySem.W.Frag} {H : Hp} {a : Addr} {xs : List V} {o : Obj} (n : o.dict = none) (h : H a = some (.frz o (.tup xs))) : SqN K H a xs := ⟨.inl (.inr ⟨o, h⟩), .inl ⟨o, _, h, n⟩⟩

mutual
theorem Dq.mono {K : PySem.W.Frag} {F F' : Hp} (e : Same F F') : ∀ (d : PyData) (v : V), Dq K F v d → Dq K F' v d
  | .none, _, h => by cases h; exact .non
  | .bool b, _, h => by cases h; exact .bl b
  | .int i, _, h => by cases h; exact .int i
  | .str x, _, h => by cases h; exact .str x
  | .list ds, _, h => by
    cases h with
    | lst h1 h2 => exact .lst (e _ _ h1) (DqA.mono e ds _ h2)
  | .tuple ds, _, h => by
    cases h with
    | tup h1 h2 => exact .tup (same_seqN e h1) (DqA.mono e ds _ h2)
  | .dict _, _, h => by cases h
theorem DqA.mono {K : PySem.W.Frag} {F F' : Hp} (e : Same F F') : ∀ (ds : List PyData) (vs : List V), DqA K F vs ds → DqA K F' vs ds
  | [], _, h => by cases h; exact .nil
  | d :: ds, _, h => by
    cases h with
    | cons h1 h2 => exact .cons (Dq.mono e d _ h1) (DqA.mono e ds _ h2)
end
mutual
theorem Dq.dp {K : PySem.W.Frag} {F : Hp} : ∀ (d : PyData) (v : V), Dq K F v d → Dp K F v d
  | .none, _, h => by cases h; exact .non
  | .bool b, _, h => by cases h; exact .bl b
  | .int i, _, h => by cases h; exact .int i
  | .str x, _, h => by cases h; exact .str x
  | .list ds, _, h => by
    cases h with
    | lst h1 h2 => exact .lst (SqL.of h1) (DqA.dp ds _ h2)
  | .tuple ds, _, h => by
    cases h with
    | tup h1 h2 => exact .tup h1.1 (DqA.dp ds _ h2)
  | .dict _, _, h => by cases h
theorem DqA.dp {K : PySem.W.Frag} {F : Hp} : ∀ (ds : List PyData) (vs : List V), DqA K F vs ds → DpAll K F vs ds
  | [], _, h => by cases h; exact .nil
  | d :: ds, _, h => by
    cases h with
    | cons h1 h2 => exact .cons (Dq.dp d _ h1) (DqA.dp ds _ h2)
end
theorem DqA.length {K : PySem.W.Frag} {F : Hp} : ∀ {ds : List PyData} {vs : List V}, DqA K F vs ds → vs.length = ds.length
  | [], _, h => by cases h; rfl
  | d :: ds, _, h => by
    cases h with
    | cons h1 h2 => simp [DqA.length h2]
theorem DqA.get {K : PySem.W.Frag} {F : Hp} : ∀ {ds : List PyData} {vs : List V} {i : Nat} {d : PyData}, DqA K F vs ds → ds[i]? = some d → ∃ v, vs[i]? = some v ∧ Dq K F v d
  | [], _, i, _, h, e => by simp at e
  | d :: ds, _, 0, x, h, e => by
    cases h with
    | cons h1 h2 => simp at e; subst e; exact ⟨_, rfl, h1⟩
  | d :: ds, _, i + 1, x, h, e => by
    cases h with
    | cons h1 h2 =>
      obtain ⟨v, q1, q2⟩ := DqA.get (i := i) h2 (by simpa using e)
      exact ⟨v, by simpa using q1, q2⟩
theorem DqA.get' {K : PySem.W.Frag} {F : Hp} : ∀ {ds : List PyData} {vs : List V} {i : Nat} {v : V}, DqA K F vs ds → vs[i]? = some v → ∃ d, ds[i]? = some d ∧ Dq K F v d
  | [], _, i, _, h, e => by cases h; simp at e
  | d :: ds, _, 0, x, h, e => by
    cases h with
    | cons h1 h2 => simp at e; subst e; exact ⟨_, rfl, h1⟩
  | d :: ds, _, i + 1, x, h, e => by
    cases h with
    | cons h1 h2 =>
      obtain ⟨v, q1, q2⟩ := DqA.get' (i := i) h2 (by simpa using e)
      exact ⟨v, by simpa using q1, q2⟩
theorem DqA.append {K : PySem.W.Frag} {F : Hp} : ∀ {ds es : List PyData} {vs ws : List V}, DqA K F vs ds → DqA K F ws es → DqA K F (vs ++ ws) (ds ++ es)
  | [], _, _, _, h, k => by cases h; exact k
  | d :: ds, _, _, _, h, k => by
    cases h with
    | cons h1 h2 => exact .cons h1 (DqA.append h2 k)
theorem DqA.take {K : PySem.W.Frag} {F : Hp} : ∀ {ds : List PyData} {vs : List V} (n : Nat), DqA K F vs ds → DqA K F (vs.take n) (ds.take n)
  | _, _, 0, _ => .nil
  | [], _, n + 1, h => by cases h; exact .nil
  | d :: ds, _, n + 1, h => by
    cases h with
    | cons h1 h2 => exact .cons h1 (DqA.take n h2)
theorem DqA.drop {K : PySem.W.Frag} {F : Hp} : ∀ {ds : List PyData} {vs : List V} (n : Nat), DqA K F vs ds → DqA K F (vs.drop n) (ds.drop n)
  | _, _, 0, h => h
  | [], _, n + 1, h => by cases h; exact .nil
  | d :: ds, _, n + 1, h => by
    cases h with
    | cons h1 h2 => exact DqA.drop n h2
theorem DqA.set {K : PySem.W.Frag} {F : Hp} {v : V} {d : PyData} (q : Dq K F v d) : ∀ {ds : List PyData} {vs : List V} (n : Nat), DqA K F vs ds → DqA K F (vs.set n v) (ds.set n d)
  | [], _, n, h => by cases h; exact .nil
  | _ :: ds, _, 0, h => by
    cases h with
    | cons h1 h2 => exact .cons q h2
  | _ :: ds, _, n + 1, h => by
    cases h with
    | cons h1 h2 => exact .cons h1 (DqA.set q n h2)
theorem DqA.rev {K : PySem.W.Frag} {F : Hp} : ∀ {ds : List PyData} {vs : List V}, DqA K F vs ds → DqA K F vs.reverse ds.reverse
  | [], _, h => by cases h; exact .nil
  | _ :: ds, _, h => by
    cases h with
    | cons h1 h2 => rw [List.reverse_cons, List.reverse_cons]; exact DqA.append (DqA.rev h2) (.cons h1 .nil)
theorem DqA.ints {K : PySem.W.Frag} {F : Hp} : ∀ {ns : List Int} {vs : List V}, DqA K F vs (ns.map PyData.int) → vs = ns.map V.int
  | [], _, h => by cases h; rfl
  | _ :: ns, _, h => by
    cases h with
    | cons h1 h2 => cases h1; rw [DqA.ints h2]; rfl
theorem DqA.of_ints {K : PySem.W.Frag} {F : Hp} : ∀ (ns : List Int), DqA K F (ns.map V.int) (ns.map PyData.int)
  | [] => .nil
  | i :: ns => .cons (.int i) (DqA.of_ints ns)

/-! ## the frozen part of the heap -/
/-- the frozen part F of H: all tuples are in it -/
structure Cfg (F H : Hp) : Prop where
  sub : Same F H
  tup : ∀ a xs, H a = some (.tup xs) → F a = some (.tup xs)
structure Grow (F H F' H' : Hp) : Prop where
  cfg : Cfg F' H'
  ff : Same F F'
  hh : Same H H'
  nw : ∀ a o, F' a = some o → F a = some o ∨ H a = none
theorem Grow.refl {F H : Hp} (c : Cfg F H) : Grow F H F H := ⟨c, Same.refl _, Same.refl _, fun _ _ h => .inl h⟩
theorem same_none {H H' : Hp} (e : Same H H') {a : Addr} (h : H' a = none) : H a = none := e.free h
theorem Grow.trans {F H F1 H1 F2 H2 : Hp} (a : Grow F H F1 H1) (b : Grow F1 H1 F2 H2) : Grow F H F2 H2 :=
  ⟨b.cfg, a.ff.trans b.ff, a.hh.trans b.hh, fun x o h => by
    rcases b.nw x o h with h | h
    · exact a.nw x o h
    · exact .inr (same_none a.hh h)⟩
theorem Grow.stillFree {F H F' H' : Hp} (g : Grow F H F' H') {p : Addr} {o : HO} (f : F p = none) (h : H p = some o) : F' p = none := by
  cases q : F' p with
  | none => rfl
  | some u =>
    rcases g.nw p u q with z | z
    · rw [f] at z; cases z
    · rw [h] at z; cases z
/-- a new frozen object -/
theorem Grow.newF {F H : Hp} (c : Cfg F H) {p : Addr} (o : HO) (n : H p = none) : Grow F H (upd F p o) (upd H p o) where
  cfg := ⟨fun b u h => by
      by_cases e : b = p
      · subst e; rw [upd_same] at h ⊢; exact h
      · rw [upd_ne e] at h ⊢; exact c.sub b u h, fun b xs h => by
      by_cases e : b = p
      · subst e; rw [upd_same] at h ⊢; exact h
      · rw [upd_ne e] at h ⊢; exact c.tup b xs h⟩
  ff := fun b u h => by rw [upd_ne (ne_of_none h (same_none c.sub n))]; exact h
  hh := fun b u h => by rw [upd_ne (ne_of_none h n)]; exact h
  nw := fun b u h => by
    by_cases e : b = p
    · subst e; exact .inr n
    · rw [upd_ne e] at h; exact .inl h
/-- a new object of its own (no tuple) -/
theorem Grow.newO {F H : Hp} (c : Cfg F H) {p : Addr} (o : HO) (n : H p = none) (nt : ∀ xs, o ≠ .tup xs) : Grow F H F (upd H p o) where
  cfg := ⟨fun b u h => by rw [upd_ne (ne_of_none (c.sub _ _ h) n)]; exact c.sub b u h, fun b xs h => by
      by_cases e : b = p
      · subst e; rw [upd_same] at h; exact absurd (Option.some.inj h) (nt xs)
      · rw [upd_ne e] at h; exact c.tup b xs h⟩
  ff := Same.refl _
  hh := fun b u h => by rw [upd_ne (ne_of_none h n)]; exact h
  nw := fun _ _ h => .inl h
/-- what stood of its own is frozen -/
theorem Grow.freeze {F0 H0 F H : Hp} (g : Grow F0 H0 F H) {p : Addr} {o : HO} (n0 : H0 p = none) (f : F p = none) (h : H p = some o) : Grow F0 H0 (upd F p o) H where
  cfg := ⟨fun b u q => by
      by_cases e : b = p
      · subst e; rw [upd_same] at q; cases q; exact h
      · rw [upd_ne e] at q; exact g.cfg.sub b u q, fun b xs q => by
      by_cases e : b = p
      · subst e; rw [q] at h; cases h; exact upd_same
      · rw [upd_ne e]; exact g.cfg.tup b xs q⟩
  ff := fun b u q => by
    have : b ≠ p := fun e => by subst e; rw [g.ff b u q] at f; cases f
    rw [upd_ne this]; exact g.ff b u q
  hh := g.hh
  nw := fun b u q => by
    by_cases e : b = p
    · subst e; exact .inr n0
    · rw [upd_ne e] at q; exact g.nw b u q
/-- an object of its own changes -/
theorem Grow.write {F0 H0 F H : Hp} (g : Grow F0 H0 F H) {p : Addr} {o o' : HO} (n0 : H0 p = none) (f : F p = none) (h : H p = some o) (nt : ∀ xs, o' ≠ .tup xs) : Grow F0 H0 F (upd H p o') where
  cfg := ⟨fun b u q => by
      have : b ≠ p := fun e => by subst e; rw [q] at f; cases f
      rw [upd_ne this]; exact g.cfg.sub b u q, fun b xs q => by
      by_cases e : b = p
      · subst e; rw [upd_same] at q; exact absurd (Option.some.inj q) (nt xs)
      · rw [upd_ne e] at q; exact g.cfg.tup b xs q⟩
  ff := g.ff
  hh := fun b u q => by
    have : b ≠ p := fun e => by subst e; rw [q] at n0; cases n0
    rw [upd_ne this]; exact g.hh b u q
  nw := g.nw

/-! ## what a value stands for -/
def KD {κ : Type} (K : PySem.W.Frag) (F : Hp) : List (κ × V) → List (κ × PyData) → Prop := Paired fun (p : κ × V) (q : κ × PyData) => p.1 = q.1 ∧ Dq K F p.2 q.2
theorem KD.mono {κ : Type} {K : PySem.W.Frag} {F F' : Hp} (e : Same F F') {a : List (κ × V)} {b : List (κ × PyData)} (h : KD K F a b) : KD K F' a b :=
  Paired.mapP h fun _ _ z => ⟨z.1, z.2.mono e⟩
/-- a dict whose keys are tuples of ints, by its entries -/
def hashT (ks : List Int) : Int := reduceHash (Builtin.Tuple.tupleHashOf (ks.map hashInt))
abbrev TX := Nat × List (List Int × Addr × Value)
def DTOk (d : Addr) (t : TX) (h : Heap) : Prop := ∃ o es, h.get? d = some o ∧ o.ExactDict ∧ o.data = .dict es t.1 ∧ es.toList = t.2.map (fun x => (⟨hashT x.1, .ref x.2.1, x.2.2⟩ : DictEntry)) ∧ (t.2.map (·.1)).Nodup ∧ t.2.length ≤ sizeLine ∧ (d == sysModules) = false
def DTO (d : Addr) (xs : TX) : HO := .ext (DTOk d xs)
def KTl (K : PySem.W.Frag) (F : Hp) : List (List Int × Addr × Value) → List (List Int × PyData) → Prop := Paired fun p q => p.1 = q.1 ∧ SqN K F p.2.1 (p.1.map V.int) ∧ ∃ v, RelV v p.2.2 ∧ Dq K F v q.2
def KTq (K : PySem.W.Frag) (F : Hp) (t : TX) (kvs : List (List Int × PyData)) : Prop := KTl K F t.2 kvs
theorem KTl.mono {K : PySem.W.Frag} {F F' : Hp} (e : Same F F') {a : List (List Int × Addr × Value)} {b : List (List Int × PyData)} (h : KTl K F a b) : KTl K F' a b :=
  Paired.mapP h fun _ _ z => ⟨z.1, same_seqN e z.2.1, z.2.2.choose, z.2.2.choose_spec.1, z.2.2.choose_spec.2.mono e⟩
theorem KTq.mono {K : PySem.W.Frag} {F F' : Hp} (e : Same F F') {a : TX} {b : List (List Int × PyData)} (h : KTq K F a b) : KTq K F' a b := KTl.mono e h
theorem DTO_tup {d : Addr} {xs : TX} (ys : List V) : DTO d xs ≠ .tup ys := fun z => by
  have z' : HO.ext _ = HO.tup ys := z
  cases z'
def RVok (K : PySem.W.Frag) (H0 F H : Hp) (v : V) : RV → Prop
  | .d x => Dq K F v x
  | .ol xs => ∃ p vs, v = .ref p ∧ H0 p = none ∧ F p = none ∧ H p = some (.lst vs) ∧ DqA K F vs xs
  | .bl xs => ∃ p vs, v = .ref p ∧ H p = some (.lst vs) ∧ DqA K F vs xs
  | .od xs => ∃ p vs, v = .ref p ∧ H0 p = none ∧ F p = none ∧ H p = some (.dK vs) ∧ KD K F vs xs
  | .bd xs => ∃ p vs, v = .ref p ∧ Rd H p (.dK vs) ∧ KD K F vs xs
  | .ot xs => ∃ p vs, v = .ref p ∧ H0 p = none ∧ F p = none ∧ H p = some (DTO p vs) ∧ KTq K F vs xs
  | .bt xs => ∃ p vs, v = .ref p ∧ H p = some (DTO p vs) ∧ KTq K F vs xs
  | .sc ns => ∃ a, v = .ref a ∧ SqL K F a (ns.map V.int)
  | .xo a dd _ fs => v = .ref a ∧ ∃ xs, H dd = some (.xd xs) ∧ KD K F xs fs
  | .t3 x ys kvs => ∃ p w l d vs us, v = .ref p ∧ SqT K F p [w, .ref l, .ref d] ∧ Dq K F w x ∧ (F l = some (.lst vs) ∧ DqA K F vs ys) ∧ (∃ o, F d = some (.frz o (.dK us))) ∧ KD K F us kvs
  | .fd kvs => ∃ p us, v = .ref p ∧ (∃ o, F p = some (.frz o (.dK us))) ∧ KD K F us kvs
theorem t3_mono {K : PySem.W.Frag} {H0 F H H0' F' H' : Hp} {v : V} {x : PyData} {ys : List PyData} {kvs : List (Key × PyData)} (e : Same F F') (h : RVok K H0 F H v (.t3 x ys kvs)) : RVok K H0' F' H' v (.t3 x ys kvs) := by
  obtain ⟨p, w, l, d, vs, us, ev, s, qw, ⟨hl, ql⟩, ⟨o, hd⟩, qd⟩ := h
  exact ⟨p, w, l, d, vs, us, ev, same_seqT e s, Dq.mono e x w qw, ⟨e _ _ hl, DqA.mono e _ _ ql⟩, ⟨o, e _ _ hd⟩, qd.mono e⟩
theorem fd_mono {K : PySem.W.Frag} {H0 F H H0' F' H' : Hp} {v : V} {kvs : List (Key × PyData)} (e : Same F F') (h : RVok K H0 F H v (.fd kvs)) : RVok K H0' F' H' v (.fd kvs) := by
  obtain ⟨p, us, ev, ⟨o, hd⟩, qd⟩ := h
  exact ⟨p, us, ev, ⟨o, e _ _ hd⟩, qd.mono e⟩
theorem RVok.grow {K : PySem.W.Frag} {H0 F H F' H' : Hp} {v : V} {r : RV} (h : RVok K H0 F H v r) (g : Grow F H F' H') : RVok K H0 F' H' v r := by
  cases r with
  | d x => exact Dq.mono g.ff x v h
  | ol xs => obtain ⟨p, vs, e, n0, f, hp, q⟩ := h; exact ⟨p, vs, e, n0, g.stillFree f hp, g.hh _ _ hp, DqA.mono g.ff _ _ q⟩
  | bl xs => obtain ⟨p, vs, e, hp, q⟩ := h; exact ⟨p, vs, e, g.hh _ _ hp, DqA.mono g.ff _ _ q⟩
  | od xs => obtain ⟨p, vs, e, n0, f, hp, q⟩ := h; exact ⟨p, vs, e, n0, g.stillFree f hp, g.hh _ _ hp, q.mono g.ff⟩
  | bd xs => obtain ⟨p, vs, e, hp, q⟩ := h; exact ⟨p, vs, e, hp.imp (g.hh _ _) (fun ⟨o, z⟩ => ⟨o, g.hh _ _ z⟩), q.mono g.ff⟩
  | ot xs => obtain ⟨p, vs, e, n0, f, hp, q⟩ := h; exact ⟨p, vs, e, n0, g.stillFree f hp, g.hh _ _ hp, q.mono g.ff⟩
  | bt xs => obtain ⟨p, vs, e, hp, q⟩ := h; exact ⟨p, vs, e, g.hh _ _ hp, q.mono g.ff⟩
  | sc ns => obtain ⟨a, e, q⟩ := h; exact ⟨a, e, g.ff.seq q⟩
  | xo a dd c fs => obtain ⟨e, xs, hp, q⟩ := h; exact ⟨e, xs, g.hh _ _ hp, q.mono g.ff⟩
  | t3 x ys kvs => exact t3_mono g.ff h
  | fd kvs => exact fd_mono g.ff h
/-- fresh over a later heap is fresh over an earlier one -/
theorem RVok.older {K : PySem.W.Frag} {H0 H1 F H : Hp} {v : V} {r : RV} (h : RVok K H1 F H v r) (e : Same H0 H1) : RVok K H0 F H v r := by
  cases r with
  | ol xs => obtain ⟨p, vs, e1, n0, q⟩ := h; exact ⟨p, vs, e1, same_none e n0, q⟩
  | od xs => obtain ⟨p, vs, e1, n0, q⟩ := h; exact ⟨p, vs, e1, same_none e n0, q⟩
  | ot xs => obtain ⟨p, vs, e1, n0, q⟩ := h; exact ⟨p, vs, e1, same_none e n0, q⟩
  | _ => exact h

/-- of its own -/
def RV.own : RV → Bool
  | .ol _ | .od _ | .ot _ => true
  | _ => false
def RV.isB : RV → Bool
  | .bl _ | .bd _ | .bt _ => true
  | _ => false
/-- borrowed -/
def RV.bor : RV → RV
  | .ol xs => .bl xs
  | .od xs => .bd xs
  | .ot xs => .bt xs
  | r => r
theorem RVok.bor {K : PySem.W.Frag} {H0 F H : Hp} {v : V} {r : RV} (h : RVok K H0 F H v r) : RVok K H0 F H v r.bor := by
  cases r with
  | ol xs => obtain ⟨p, vs, e1, n0, f, q⟩ := h; exact ⟨p, vs, e1, q⟩
  | od xs => obtain ⟨p, vs, e1, n0, f, hp, q⟩ := h; exact ⟨p, vs, e1, .inl hp, q⟩
  | ot xs => obtain ⟨p, vs, e1, n0, f, q⟩ := h; exact ⟨p, vs, e1, q⟩
  | _ => exact h

/-! ## the state of a body -/
structure Base where
  F : Hp
  H : Hp
structure StOk (K : PySem.W.Frag) (B : Base) (F : Hp) (env : VEnv) (σ : L2.St) (H : Hp) : Prop where
  gr : Grow B.F B.H F H
  len : env.length = σ.length
  sl : ∀ (i : Nat) (r : RV), env[i]? = some (some r) → ∃ v, σ[i]? = some (some v) ∧ RVok K B.H F H v r
  bo : ∀ (i : Nat) (r : RV) (p : Addr), env[i]? = some (some r) → r.isB = true → σ[i]? = some (some (.ref p)) → ∃ o, B.H p = some o
  dis : ∀ (i j : Nat) (r r' : RV) (p : Addr), i ≠ j → env[i]? = some (some r) → env[j]? = some (some r') → r.own = true → r'.own = true → σ[i]? = some (some (.ref p)) → σ[j]? ≠ some (some (.ref p))
theorem StOk.grow {K : PySem.W.Frag} {B : Base} {F H F' H' : Hp} {env : VEnv} {σ : L2.St} (s : StOk K B F env σ H) (g : Grow F H F' H') : StOk K B F' env σ H' :=
  ⟨s.gr.trans g, s.len, fun i r e => by
    obtain ⟨v, e1, h⟩ := s.sl i r e
    exact ⟨v, e1, h.grow g⟩, s.bo, s.dis⟩
theorem StOk.cfg {K : PySem.W.Frag} {B : Base} {F H : Hp} {env : VEnv} {σ : L2.St} (s : StOk K B F env σ H) : Cfg F H := s.gr.cfg

/-! ## expressions -/
section
variable (K : PySem.W.Frag) (ca : Nat → Addr)
def ExOk (F H : Hp) (cls : Value) (dx : Option Addr) (c : Nat) (fs : List (Str × PyData)) : Prop :=
  cls = .ref (ca c) ∧ ∃ dd xs, dx = some dd ∧ H dd = some (.xd xs) ∧ KD K F xs fs
def PostX (W : WX) (σ : L2.St) (F H : Hp) (c : Nat) (fs : List (Str × PyData)) : Prop :=
  ∀ F' H' cls dx, Grow F H F' H' → ExOk K ca F' H' cls dx c fs → W cls dx σ H'
def PostE (W : WX) (σ : L2.St) (F H : Hp) (Q : VK) : Rs RV → Prop
  | .ok r => ∀ F' H' v, Grow F H F' H' → RVok K H F' H' v r → Q v H'
  | .ex c fs => PostX K ca W σ F H c fs
  | .no => False
def PostB (W : WX) (σ : L2.St) (F H : Hp) (Q : Bool → Hp → Prop) : Rs Bool → Prop
  | .ok b => ∀ F' H', Grow F H F' H' → Q b H'
  | .ex c fs => PostX K ca W σ F H c fs
  | .no => False
def PostA (W : WX) (σ : L2.St) (F H : Hp) (Q : List V → Hp → Prop) : Rs (List RV) → Prop
  | .ok rs => ∀ F' H' vs, Grow F H F' H' → Paired (fun v r => RVok K H F' H' v r) vs rs → Q vs H'
  | .ex c fs => PostX K ca W σ F H c fs
  | .no => False
def SndE (W : WX) (t : TE) (f : VEnv → Rs RV) : Prop := ∀ B F env σ H Q, StOk K B F env σ H → PostE K ca W σ F H Q (f env) → t σ H Q
def SndT (W : WX) (t : TT) (f : VEnv → Rs Bool) : Prop := ∀ B F env σ H Q, StOk K B F env σ H → PostB K ca W σ F H Q (f env) → t σ H Q
def SndA (W : WX) (t : TA) (f : VEnv → Rs (List RV)) : Prop := ∀ B F env σ H Q, StOk K B F env σ H → PostA K ca W σ F H Q (f env) → t σ H Q
end
section
variable {K : PySem.W.Frag} {ca : Nat → Addr} {W : WX} {B : Base} {F H F1 H1 : Hp} {env : VEnv} {σ : L2.St}
theorem PostX.mono {c : Nat} {fs : List (Str × PyData)} (g : Grow F H F1 H1) (h : PostX K ca W σ F H c fs) : PostX K ca W σ F1 H1 c fs :=
  fun F' H' cls dx g' e => h F' H' cls dx (g.trans g') e
theorem PostE.mono {Q : VK} {m : Rs RV} (g : Grow F H F1 H1) (h : PostE K ca W σ F H Q m) : PostE K ca W σ F1 H1 Q m := by
  cases m with
  | ok r => exact fun F' H' v g' e => h F' H' v (g.trans g') (e.older g.hh)
  | ex c fs => exact PostX.mono g h
  | no => exact h
theorem PostB.mono {Q : Bool → Hp → Prop} {m : Rs Bool} (g : Grow F H F1 H1) (h : PostB K ca W σ F H Q m) : PostB K ca W σ F1 H1 Q m := by
  cases m with
  | ok r => exact fun F' H' g' => h F' H' (g.trans g')
  | ex c fs => exact PostX.mono g h
  | no => exact h
theorem paired_older {K : PySem.W.Frag} {H0 H1 F H : Hp} (e : Same H0 H1) {vs : List V} {rs : List RV} (h : Paired (fun v r => RVok K H1 F H v r) vs rs) : Paired (fun v r => RVok K H0 F H v r) vs rs :=
  Paired.mapP h fun _ _ z => z.older e
theorem paired_grow {K : PySem.W.Frag} {H0 F H F' H' : Hp} (g : Grow F H F' H') {vs : List V} {rs : List RV} (h : Paired (fun v r => RVok K H0 F H v r) vs rs) : Paired (fun v r => RVok K H0 F' H' v r) vs rs :=
  Paired.mapP h fun _ _ z => z.grow g
theorem PostA.mono {Q : List V → Hp → Prop} {m : Rs (List RV)} (g : Grow F H F1 H1) (h : PostA K ca W σ F H Q m) : PostA K ca W σ F1 H1 Q m := by
  cases m with
  | ok r => exact fun F' H' v g' e => h F' H' v (g.trans g') (paired_older g.hh e)
  | ex c fs => exact PostX.mono g h
  | no => exact h
/-- one part, then what hangs on it -/
theorem seqE {t : TE} {f : VEnv → Rs RV} {Q : VK} {α : Type} {k : RV → Rs α} (P : Rs α → Prop) (s : SndE K ca W t f) (st : StOk K B F env σ H)
    (post : P ((f env).bind k)) (hx : ∀ c fs, P (.ex c fs) → PostX K ca W σ F H c fs) (hn : ¬ P .no)
    (h : ∀ r F1 H1 v, P (k r) → Grow F H F1 H1 → RVok K H F1 H1 v r → Q v H1) : t σ H Q := by
  refine s B F env σ H Q st ?_
  cases e : f env with
  | ok r => rw [e] at post; exact fun F' H' v g q => h r F' H' v post g q
  | ex c fs => rw [e] at post; exact hx c fs post
  | no => rw [e] at post; exact hn post
theorem seqT {t : TT} {f : VEnv → Rs Bool} {Q : Bool → Hp → Prop} {α : Type} {k : Bool → Rs α} (P : Rs α → Prop) (s : SndT K ca W t f) (st : StOk K B F env σ H)
    (post : P ((f env).bind k)) (hx : ∀ c fs, P (.ex c fs) → PostX K ca W σ F H c fs) (hn : ¬ P .no)
    (h : ∀ r F1 H1, P (k r) → Grow F H F1 H1 → Q r H1) : t σ H Q := by
  refine s B F env σ H Q st ?_
  cases e : f env with
  | ok r => rw [e] at post; exact fun F' H' g => h r F' H' post g
  | ex c fs => rw [e] at post; exact hx c fs post
  | no => rw [e] at post; exact hn post
theorem seqA {t : TA} {f : VEnv → Rs (List RV)} {Q : List V → Hp → Prop} {α : Type} {k : List RV → Rs α} (P : Rs α → Prop) (s : SndA K ca W t f) (st : StOk K B F env σ H)
    (post : P ((f env).bind k)) (hx : ∀ c fs, P (.ex c fs) → PostX K ca W σ F H c fs) (hn : ¬ P .no)
    (h : ∀ r F1 H1 vs, P (k r) → Grow F H F1 H1 → Paired (fun v r => RVok K H F1 H1 v r) vs r → Q vs H1) : t σ H Q := by
  refine s B F env σ H Q st ?_
  cases e : f env with
  | ok r => rw [e] at post; exact fun F' H' v g q => h r F' H' v post g q
  | ex c fs => rw [e] at post; exact hx c fs post
  | no => rw [e] at post; exact hn post
end

structure VE (ca : Nat → Addr) (W : WX) (X : Cx) (e : Expr) (f : VEnv → Rs RV) : Prop where
  ex : ∃ t, PE X e t ∧ SndE X.K ca W t f
structure VT (ca : Nat → Addr) (W : WX) (X : Cx) (e : Expr) (f : VEnv → Rs Bool) : Prop where
  ex : ∃ t, PT X e t ∧ SndT X.K ca W t f
structure VW (ca : Nat → Addr) (W : WX) (X : Cx) (e : Expr) (f : VEnv → Rs Bool) : Prop where
  ex : ∃ t, PW X e t ∧ SndT X.K ca W t f
structure VA (ca : Nat → Addr) (W : WX) (X : Cx) (es : List Expr) (f : VEnv → Rs (List RV)) : Prop where
  ex : ∃ t, PA X es t ∧ SndA X.K ca W t f

section
variable {ca : Nat → Addr} {W : WX} {X : Cx} {a b e : Expr} {es : List Expr} {fa fb : VEnv → Rs RV} {pos : Pos}
/-! ### names and constants -/
def cC (x : PyData) : VEnv → Rs RV := fun _ => .ok (.d x)
theorem ve_int {i j pos} : VE ca W X (.Constant (.int i) j pos) (cC (.int i)) := ⟨_, pe_int, fun _ _ _ _ _ _ st p => p _ _ _ (Grow.refl st.cfg) (.int i)⟩
theorem ve_bl {b j pos} : VE ca W X (.Constant (.bool b) j pos) (cC (.bool b)) := ⟨_, pe_bl, fun _ _ _ _ _ _ st p => p _ _ _ (Grow.refl st.cfg) (.bl b)⟩
theorem ve_non {j pos} : VE ca W X (.Constant .none j pos) (cC .none) := ⟨_, pe_non, fun _ _ _ _ _ _ st p => p _ _ _ (Grow.refl st.cfg) .non⟩
theorem ve_str {x j pos} : VE ca W X (.Constant (.str x) j pos) (cC (.str x)) := ⟨_, pe_str, fun _ _ _ _ _ _ st p => p _ _ _ (Grow.refl st.cfg) (.str x)⟩
/-- a name: borrowed where the slot's list or dict is of its own -/
def cV (i : Nat) : VEnv → Rs RV := fun env => match env[i]? with
  | some (some r) => .ok r.bor
  | _ => .no
theorem snd_var {K : PySem.W.Frag} {i : Nat} : SndE K ca W (tVar i) (cV i) := by
  intro B F env σ H Q st p
  unfold cV at p
  split at p
  · rename_i r e
    obtain ⟨v, e1, h⟩ := st.sl i r e
    refine ⟨v, e1, p F H v (Grow.refl st.cfg) ?_⟩
    cases r with
    | ol xs => exact h.bor
    | od xs => exact h.bor
    | ot xs => exact h.bor
    | _ => exact h
  · exact p.elim
theorem vv (i : Nat) {x : Str} {pos : Pos} (hN : X.N[i]? = some x := by rfl) (hv : Vis X.env.scope x := by first | exact Or.inl rfl | exact Or.inr (Or.inl rfl) | exact Or.inr (Or.inr rfl)) (hd : (x == ("__debug__" : Str)) = false := by decide)
    (hcd : (x == ("__classdict__" : Str)) = false := by decide) : VE ca W X (.Name x pos) (cV i) := ⟨_, pe_var hN hv hd hcd, snd_var⟩
/-- a constant of the module: an int, a text -/
theorem ve_gint {x : Str} {i : Int} {t : Tok} {pos : Pos} (hg : Gl X x) (hm : X.mg x = some (.int i t)) (hd : (x == ("__debug__" : Str)) = false := by decide) : VE ca W X (.Name x pos) (cC (.int i)) :=
  ⟨_, pe_glob hg hm (v := .int i) ⟨t, rfl⟩ hd, fun _ _ _ _ _ _ st p => p _ _ _ (Grow.refl st.cfg) (.int i)⟩
theorem ve_gstr {x y : Str} {t : Tok} {pos : Pos} (hg : Gl X x) (hm : X.mg x = some (.str y t)) (hd : (x == ("__debug__" : Str)) = false := by decide) : VE ca W X (.Name x pos) (cC (.str y)) :=
  ⟨_, pe_glob hg hm (v := .str y) ⟨t, rfl⟩ hd, fun _ _ _ _ _ _ st p => p _ _ _ (Grow.refl st.cfg) (.str y)⟩

/-! ### operators by their values -/
def Op2S (K : PySem.W.Frag) (ca : Nat → Addr) (r : R2) (g : RV → RV → Rs RV) : Prop := ∀ (W : WX) σ F0 H0 F H v1 v2 a b Q, Grow F0 H0 F H → RVok K H0 F H v1 a → RVok K H0 F H v2 b → PostE K ca W σ F0 H0 Q (g a b) → r v1 v2 H Q
def Op1S (K : PySem.W.Frag) (ca : Nat → Addr) (r : V → Hp → VK → Prop) (g : RV → Rs RV) : Prop := ∀ (W : WX) σ F0 H0 F H v a Q, Grow F0 H0 F H → RVok K H0 F H v a → PostE K ca W σ F0 H0 Q (g a) → r v H Q
def CaS (K : PySem.W.Frag) (ca : Nat → Addr) (r : List V → Hp → VK → Prop) (g : List RV → Rs RV) : Prop := ∀ (W : WX) σ F0 H0 F H vs as Q, Grow F0 H0 F H → Paired (fun v a => RVok K H0 F H v a) vs as → PostE K ca W σ F0 H0 Q (g as) → r vs H Q
def c2 (g : RV → RV → Rs RV) (fa fb : VEnv → Rs RV) : VEnv → Rs RV := fun env => (fa env).bind fun x => (fb env).bind fun y => g x y
def c1 (g : RV → Rs RV) (fa : VEnv → Rs RV) : VEnv → Rs RV := fun env => (fa env).bind g
theorem snd_op2 {K : PySem.W.Frag} {r : R2} {g : RV → RV → Rs RV} {ta tb : TE} (hr : Op2S K ca r g) (sa : SndE K ca W ta fa) (sb : SndE K ca W tb fb) : SndE K ca W (tOp r ta tb) (c2 g fa fb) := by
  intro B F env σ H Q st p
  show ta σ H fun x H1 => tb σ H1 fun y H2 => r x y H2 Q
  refine seqE (PostE K ca W σ F H Q) sa st p (fun _ _ h => h) (fun h => h) fun x F1 H1 v1 p1 g1 q1 => ?_
  refine seqE (PostE K ca W σ F H Q) sb (st.grow g1) p1 (fun _ _ h => PostX.mono g1 h) (fun h => h) fun y F2 H2 v2 p2 g2 q2 => ?_
  exact hr W σ F H F2 H2 v1 v2 x y Q (g1.trans g2) (q1.grow g2) (q2.older g1.hh) p2
theorem snd_op1 {K : PySem.W.Frag} {r : V → Hp → VK → Prop} {g : RV → Rs RV} {ta : TE} (hr : Op1S K ca r g) (sa : SndE K ca W ta fa) : SndE K ca W (tUn r ta) (c1 g fa) := by
  intro B F env σ H Q st p
  show ta σ H fun x H1 => r x H1 Q
  refine seqE (PostE K ca W σ F H Q) sa st p (fun _ _ h => h) (fun h => h) fun x F1 H1 v1 p1 g1 q1 => ?_
  exact hr W σ F H F1 H1 v1 x Q g1 q1 p1
theorem ve_op {op : Operator} {r : R2} {g : RV → RV → Rs RV} (ho : OpR X (binaryOp op) r) (hr : Op2S X.K ca r g) (ha : VE ca W X a fa) (hb : VE ca W X b fb) : VE ca W X (.BinOp a op b pos) (c2 g fa fb) := by
  obtain ⟨ta, pa, sa⟩ := ha
  obtain ⟨tb, pb, sb⟩ := hb
  exact ⟨_, pe_op ho pa pb, snd_op2 hr sa sb⟩
theorem ve_un {op : UnaryOp} {r : V → Hp → VK → Prop} {g : RV → Rs RV} (ho : UnR X (unaryOp op) r) (hr : Op1S X.K ca r g) (ha : VE ca W X a fa) : VE ca W X (.UnaryOp op a pos) (c1 g fa) := by
  obtain ⟨ta, pa, sa⟩ := ha
  exact ⟨_, pe_un ho pa, snd_op1 hr sa⟩
theorem ve_ix {r : R2} {g : RV → RV → Rs RV} (ho : IxR X r) (hr : Op2S X.K ca r g) (ha : VE ca W X a fa) (hb : VE ca W X b fb) (hs : PlainIx b) : VE ca W X (.Subscript a b pos) (c2 g fa fb) := by
  obtain ⟨ta, pa, sa⟩ := ha
  obtain ⟨tb, pb, sb⟩ := hb
  exact ⟨_, pe_ix ho pa pb hs, snd_op2 hr sa sb⟩
end
end VL

namespace VL
open PySem PySem.Spec PyProof.Rows L2

/-! ## freezing -/
def RV.toD : RV → Option PyData
  | .d x => some x
  | .ol xs => some (.list xs)
  | _ => none
def allD : List RV → Option (List PyData)
  | [] => some []
  | r :: rs => r.toD.bind fun d => (allD rs).bind fun ds => some (d :: ds)
theorem allD_len : ∀ {rs : List RV} {ds : List PyData}, allD rs = some ds → ds.length = rs.length
  | [], ds, h => by simp [allD] at h; subst h; rfl
  | r :: rs, ds, h => by
    unfold allD at h
    cases e : r.toD with
    | none => rw [e] at h; simp at h
    | some d =>
      cases e2 : allD rs with
      | none => rw [e, e2] at h; simp at h
      | some es => rw [e, e2] at h; simp at h; subst h; simp [allD_len e2]
def Fz (K : PySem.W.Frag) (H0 F H : Hp) (v : V) (d : PyData) : Prop := Dq K F v d ∨ ∃ p ws xs, v = .ref p ∧ d = .list xs ∧ H0 p = none ∧ H p = some (.lst ws) ∧ DqA K F ws xs
theorem Fz.of {K : PySem.W.Frag} {H0 F H : Hp} {v : V} {r : RV} {d : PyData} (h : RVok K H0 F H v r) (e : r.toD = some d) : Fz K H0 F H v d := by
  cases r with
  | d x => cases e; exact .inl h
  | ol xs => cases e; obtain ⟨p, vs, e1, n0, f, hp, q⟩ := h; exact .inr ⟨p, vs, xs, e1, rfl, n0, hp, q⟩
  | _ => cases e
theorem Fz.ofs {K : PySem.W.Frag} {H0 F H : Hp} : ∀ {rs : List RV} {vs : List V} {ds : List PyData}, Paired (fun v r => RVok K H0 F H v r) vs rs → allD rs = some ds → Paired (fun v d => Fz K H0 F H v d) vs ds
  | [], _, ds, h, e => by cases h; simp [allD] at e; subst e; exact .nil
  | r :: rs, _, ds, h, e => by
    cases h with
    | cons h1 h2 =>
      unfold allD at e
      cases e1 : r.toD with
      | none => rw [e1] at e; simp at e
      | some d =>
        cases e2 : allD rs with
        | none => rw [e1, e2] at e; simp at e
        | some es => rw [e1, e2] at e; simp at e; subst e; exact .cons (Fz.of h1 e1) (Fz.ofs h2 e2)
theorem Fz.mono {K : PySem.W.Frag} {H0 F F' H : Hp} (e : Same F F') {v : V} {d : PyData} (h : Fz K H0 F H v d) : Fz K H0 F' H v d := by
  rcases h with h | ⟨p, ws, xs, e1, e2, n0, hp, q⟩
  · exact .inl (h.mono e)
  · exact .inr ⟨p, ws, xs, e1, e2, n0, hp, DqA.mono e _ _ q⟩
theorem frz {K : PySem.W.Frag} {F0 H0 F H : Hp} (g : Grow F0 H0 F H) {v : V} {d : PyData} (h : Fz K H0 F H v d) : ∃ F', Grow F0 H0 F' H ∧ Same F F' ∧ Dq K F' v d := by
  rcases h with h | ⟨p, ws, xs, rfl, rfl, n0, hp, q⟩
  · exact ⟨F, g, Same.refl _, h⟩
  · cases e : F p with
    | none =>
      have s : Same F (upd F p (.lst ws)) := fun b u k => by rw [upd_ne (ne_of_none k e)]; exact k
      exact ⟨_, g.freeze n0 e hp, s, .lst upd_same (DqA.mono s _ _ q)⟩
    | some o =>
      have := g.cfg.sub _ _ e
      rw [hp] at this
      cases this
      exact ⟨F, g, Same.refl _, .lst e q⟩
theorem frzs {K : PySem.W.Frag} {F0 H0 H : Hp} : ∀ {F : Hp} {vs : List V} {ds : List PyData}, Grow F0 H0 F H → Paired (fun v d => Fz K H0 F H v d) vs ds → ∃ F', Grow F0 H0 F' H ∧ Same F F' ∧ DqA K F' vs ds
  | F, _, _, g, .nil => ⟨F, g, Same.refl _, .nil⟩
  | F, _, _, g, .cons h1 h2 => by
    obtain ⟨F1, g1, s1, q1⟩ := frz g h1
    obtain ⟨F2, g2, s2, q2⟩ := frzs g1 (Paired.mapP h2 fun _ _ z => z.mono s1)
    exact ⟨F2, g2, s1.trans s2, .cons (q1.mono s2) q2⟩

section
variable {ca : Nat → Addr} {W : WX} {X : Cx} {a b e : Expr} {es : List Expr} {fa fb : VEnv → Rs RV} {pos : Pos}
/-! ## argument lists, displays -/
def aN : VEnv → Rs (List RV) := fun _ => .ok []
def aC (f : VEnv → Rs RV) (g : VEnv → Rs (List RV)) : VEnv → Rs (List RV) := fun env => (f env).bind fun x => (g env).bind fun xs => .ok (x :: xs)
theorem va_nil : VA ca W X [] aN := ⟨_, pa_nil, fun _ _ _ _ _ _ st p => p _ _ _ (Grow.refl st.cfg) .nil⟩
theorem va_cons {f : VEnv → Rs RV} {g : VEnv → Rs (List RV)} (he : VE ca W X e f) (hr : VA ca W X es g) (hs : starEach (e :: es) X.env = (false, eval e X.env) :: starEach es X.env := by rfl) : VA ca W X (e :: es) (aC f g) := by
  obtain ⟨te, pe, se⟩ := he
  obtain ⟨tr, pr, sr⟩ := hr
  refine ⟨_, pa_cons pe pr hs, fun B F env σ H Q st p => ?_⟩
  show te σ H fun x H1 => tr σ H1 fun xs H2 => Q (x :: xs) H2
  refine seqE (PostA X.K ca W σ F H Q) se st p (fun _ _ h => h) (fun h => h) fun x F1 H1 v1 p1 g1 q1 => ?_
  refine seqA (PostA X.K ca W σ F H Q) sr (st.grow g1) p1 (fun _ _ h => PostX.mono g1 h) (fun h => h) fun xs F2 H2 vs p2 g2 q2 => ?_
  exact p2 F2 H2 (v1 :: vs) (g1.trans g2) (.cons (q1.grow g2) (paired_older g1.hh q2))
def rsO {α : Type} : Option α → Rs α
  | some a => .ok a
  | none => .no
@[simp] theorem rsO_some {α : Type} (a : α) : rsO (some a) = .ok a := rfl
@[simp] theorem rsO_none {α : Type} : rsO (none : Option α) = .no := rfl
def gTupl (rs : List RV) : Rs RV := (rsO (allD rs)).bind fun ds => if ds.length ≤ 1000 then .ok (.d (.tuple ds)) else .no
def gList (rs : List RV) : Rs RV := (rsO (allD rs)).bind fun ds => if ds.length ≤ 1000 then .ok (.ol ds) else .no
def cA (g : List RV → Rs RV) (f : VEnv → Rs (List RV)) : VEnv → Rs RV := fun env => (f env).bind g
theorem small_line {n : Nat} (h : n ≤ 1000) : n ≤ sizeLine := Nat.le_of_lt (small1000 h)
def tTupN (t : TA) : TE := fun σ H Q => t σ H fun xs H1 => xs.length ≤ sizeLine ∧ ∀ (o : Obj) p, o.dict = none → H1 p = none → Q (.ref p) (upd H1 p (.frz o (.tup xs)))
theorem pe_tupN {X : Cx} {es : List Expr} {x1} {pos : Pos} {t : TA} (ha : PA X es t) : PE X (.Tuple es x1 pos) (tTupN t) := by
  constructor
  intro pins s σ H Q I q0
  refine wpAny_Tuple_spliced (thn (ha.run pos pins s σ H _ I q0) fun us s2 ⟨xs, H2, I2, rv, hz, q2⟩ => ⟨by rw [← rv.length]; exact hz, ?_⟩)
  have nn : H2 s2.heap.objs.size = none := I2.hok.fresh (Nat.le_refl _)
  refine ⟨.ref s2.heap.objs.size, upd H2 s2.heap.objs.size (.frz { cls := .type "tuple", data := .seq us.toArray } (.tup xs)), I2.laid (t' := s2.toks) (fun _ _ e => Heap.get?_push_of_some _ e) (Nat.le_refl _) ?_, rfl, q2 _ _ rfl nn⟩
  exact ⟨Heap.get?_push_size _ rfl, hz, us, rv, ⟨_, Heap.get?_push_size _ rfl, rfl, _, rfl⟩⟩
theorem ve_tup {x1} {f : VEnv → Rs (List RV)} (h : VA ca W X es f) : VE ca W X (.Tuple es x1 pos) (cA gTupl f) := by
  obtain ⟨t, pa, sa⟩ := h
  refine ⟨_, pe_tupN pa, fun B F env σ H Q st p => ?_⟩
  show t σ H fun xs H1 => xs.length ≤ sizeLine ∧ ∀ (o : Obj) p, o.dict = none → H1 p = none → Q (.ref p) (upd H1 p (.frz o (.tup xs)))
  refine seqA (PostE X.K ca W σ F H Q) sa st p (fun _ _ h => h) (fun h => h) fun rs F1 H1 vs p1 g1 q1 => ?_
  unfold gTupl at p1
  cases e : allD rs with
  | none => rw [e] at p1; exact p1.elim
  | some ds =>
    rw [e] at p1
    simp only [rsO_some, Rs.bind_ok] at p1
    split at p1
    · rename_i hz
      obtain ⟨F2, g2, s2, q2⟩ := frzs g1 (Fz.ofs q1 e)
      refine ⟨by rw [q2.length]; exact small_line hz, fun o a no n => ?_⟩
      have g3 := Grow.newF g2.cfg (.frz o (.tup vs)) n
      exact p1 _ _ _ (g2.trans g3) (.tup (.frz no upd_same) (DqA.mono g3.ff _ _ q2))
    · exact p1.elim
theorem ve_lst {f : VEnv → Rs (List RV)} (h : VA ca W X es f) : VE ca W X (.List es pos) (cA gList f) := by
  obtain ⟨t, pa, sa⟩ := h
  refine ⟨_, pe_lst pa, fun B F env σ H Q st p => ?_⟩
  show t σ H fun xs H1 => xs.length ≤ sizeLine ∧ ∀ p, H1 p = none → Q (.ref p) (upd H1 p (.lst xs))
  refine seqA (PostE X.K ca W σ F H Q) sa st p (fun _ _ h => h) (fun h => h) fun rs F1 H1 vs p1 g1 q1 => ?_
  unfold gList at p1
  cases e : allD rs with
  | none => rw [e] at p1; exact p1.elim
  | some ds =>
    rw [e] at p1
    simp only [rsO_some, Rs.bind_ok] at p1
    split at p1
    · rename_i hz
      obtain ⟨F2, g2, s2, q2⟩ := frzs g1 (Fz.ofs q1 e)
      refine ⟨by rw [q2.length]; exact small_line hz, fun a n => ?_⟩
      have g3 := Grow.newO g2.cfg (.lst vs) n (fun _ z => by cases z)
      exact p1 _ _ _ (g2.trans g3) ⟨a, vs, rfl, same_none g2.hh n, same_none g2.cfg.sub n, upd_same, q2⟩
    · exact p1.elim

/-! ## comparisons and tests -/
theorem ve_cmp {op : CmpOp} {r : R2} {g : RV → RV → Rs RV} (ho : OpR X (compareOp op) r) (hr : Op2S X.K ca r g) (ha : VE ca W X a fa) (hb : VE ca W X b fb) (hm : behindInMarks op b = false) : VE ca W X (.Compare a [op] [b] pos) (c2 g fa fb) := by
  obtain ⟨ta, pa, sa⟩ := ha
  obtain ⟨tb, pb, sb⟩ := hb
  exact ⟨_, pe_cmpR ho pa pb hm, snd_op2 hr sa sb⟩
/-- a value that is True or False -/
def asB : RV → Rs Bool
  | .d (.bool b) => .ok b
  | _ => .no
def cB (f : VEnv → Rs RV) : VEnv → Rs Bool := fun env => (f env).bind asB
theorem snd_test {K : PySem.W.Frag} {t : TE} {f : VEnv → Rs RV} (s : SndE K ca W t f) : SndT K ca W (tTest t) (cB f) := by
  intro B F env σ H Q st p
  show t σ H fun x H' => ∃ k, x = .bl k ∧ Q k H'
  refine seqE (PostB K ca W σ F H Q) s st p (fun _ _ h => h) (fun h => h) fun x F1 H1 v1 p1 g1 q1 => ?_
  unfold asB at p1
  split at p1
  · rename_i k
    cases q1
    exact ⟨k, rfl, p1 _ _ g1⟩
  · exact p1.elim
theorem vt_cmp {op : CmpOp} {r : R2} {g : RV → RV → Rs RV} (ho : OpR X (compareOp op) r) (hr : Op2S X.K ca r g) (ha : VE ca W X a fa) (hb : VE ca W X b fb) (hm : behindInMarks op b = false) : VT ca W X (.Compare a [op] [b] pos) (cB (c2 g fa fb)) := by
  obtain ⟨ta, pa, sa⟩ := ha
  obtain ⟨tb, pb, sb⟩ := hb
  exact ⟨_, pt_cmpR ho pa pb hm, snd_test (snd_op2 hr sa sb)⟩
theorem vt_val {f : VEnv → Rs RV} (h : VE ca W X e f) (he : ∀ whole, isTrue e X.env whole = (do let v ← whole; standAt e.pos; holding [v] (truthy v)) := by intro _; rfl) : VT ca W X e (cB f) := by
  obtain ⟨t, pe, se⟩ := h
  exact ⟨_, pt_val pe he, snd_test se⟩
def bNot (f : VEnv → Rs Bool) : VEnv → Rs Bool := fun env => (f env).bind fun b => .ok (!b)
def bAnd (f g : VEnv → Rs Bool) : VEnv → Rs Bool := fun env => (f env).bind fun b => if b = true then g env else .ok false
def bOr (f g : VEnv → Rs Bool) : VEnv → Rs Bool := fun env => (f env).bind fun b => if b = true then .ok true else g env
theorem vt_not {f : VEnv → Rs Bool} (h : VT ca W X a f) : VT ca W X (.UnaryOp .Not a pos) (bNot f) := by
  obtain ⟨t, pe, se⟩ := h
  refine ⟨_, pt_not pe, fun B F env σ H Q st p => ?_⟩
  show t σ H fun c H1 => Q (!c) H1
  exact seqT (PostB X.K ca W σ F H Q) se st p (fun _ _ h => h) (fun h => h) fun x F1 H1 p1 g1 => p1 _ _ g1
theorem vw_and1 {f : VEnv → Rs Bool} (h : VT ca W X a f) : VW ca W X (.BoolOp .And [a] pos) f := by
  obtain ⟨t, pe, se⟩ := h
  exact ⟨_, pw_and1 pe, se⟩
theorem vw_or1 {f : VEnv → Rs Bool} (h : VT ca W X a f) : VW ca W X (.BoolOp .Or [a] pos) f := by
  obtain ⟨t, pe, se⟩ := h
  exact ⟨_, pw_or1 pe, se⟩
theorem vw_and {rest : List Expr} {f g : VEnv → Rs Bool} (h : VT ca W X a f) (h2 : VW ca W X (.BoolOp .And (b :: rest) pos) g) : VW ca W X (.BoolOp .And (a :: b :: rest) pos) (bAnd f g) := by
  obtain ⟨t, pe, se⟩ := h
  obtain ⟨u, pu, su⟩ := h2
  refine ⟨_, pw_and pe pu, fun B F env σ H Q st p => ?_⟩
  show t σ H fun c H1 => if c = true then u σ H1 Q else Q false H1
  refine seqT (PostB X.K ca W σ F H Q) se st p (fun _ _ h => h) (fun h => h) fun x F1 H1 p1 g1 => ?_
  cases x with
  | true => rw [if_pos rfl]; rw [if_pos rfl] at p1; exact su B F1 env σ H1 Q (st.grow g1) (PostB.mono g1 p1)
  | false => rw [if_neg Bool.false_ne_true]; rw [if_neg Bool.false_ne_true] at p1; exact p1 _ _ g1
theorem vw_or {rest : List Expr} {f g : VEnv → Rs Bool} (h : VT ca W X a f) (h2 : VW ca W X (.BoolOp .Or (b :: rest) pos) g) : VW ca W X (.BoolOp .Or (a :: b :: rest) pos) (bOr f g) := by
  obtain ⟨t, pe, se⟩ := h
  obtain ⟨u, pu, su⟩ := h2
  refine ⟨_, pw_or pe pu, fun B F env σ H Q st p => ?_⟩
  show t σ H fun c H1 => if c = true then Q true H1 else u σ H1 Q
  refine seqT (PostB X.K ca W σ F H Q) se st p (fun _ _ h => h) (fun h => h) fun x F1 H1 p1 g1 => ?_
  cases x with
  | false => rw [if_neg Bool.false_ne_true]; rw [if_neg Bool.false_ne_true] at p1; exact su B F1 env σ H1 Q (st.grow g1) (PostB.mono g1 p1)
  | true => rw [if_pos rfl]; rw [if_pos rfl] at p1; exact p1 _ _ g1
theorem vw {f : VEnv → Rs Bool} (h : VW ca W X e f) : VT ca W X e f := by
  obtain ⟨t, pe, se⟩ := h
  exact ⟨_, pe.pt, se⟩
/-! and, or, not as values (truth values) -/
def vAnd (f g : VEnv → Rs RV) : VEnv → Rs RV := fun env => (cB f env).bind fun b => if b = true then g env else .ok (.d (.bool false))
def vOr (f g : VEnv → Rs RV) : VEnv → Rs RV := fun env => (cB f env).bind fun b => if b = true then .ok (.d (.bool true)) else g env
def vNot (f : VEnv → Rs RV) : VEnv → Rs RV := fun env => (cB f env).bind fun b => .ok (.d (.bool (!b)))
theorem ve_one {op} {f : VEnv → Rs RV} (h : VE ca W X a f) : VE ca W X (.BoolOp op [a] pos) f := by
  obtain ⟨t, pe, se⟩ := h
  exact ⟨_, pe_one pe, se⟩
theorem seqBE {K : PySem.W.Frag} {B : Base} {F H : Hp} {env : VEnv} {σ : L2.St} {t : TE} {f : VEnv → Rs RV} {Q : VK} {α : Type} {k : Bool → Rs α} (P : Rs α → Prop) (s : SndE K ca W t f) (st : StOk K B F env σ H)
    (post : P ((cB f env).bind k)) (hx : ∀ c fs, P (.ex c fs) → PostX K ca W σ F H c fs) (hn : ¬ P .no)
    (h : ∀ r F1 H1, P (k r) → Grow F H F1 H1 → Q (.bl r) H1) : t σ H Q := by
  refine s B F env σ H Q st ?_
  unfold cB at post
  cases e : f env with
  | ok r =>
    rw [e] at post
    intro F' H' v g q
    cases r with
    | d x =>
      cases x with
      | bool b => cases q; exact h b F' H' post g
      | _ => exact absurd post hn
    | _ => exact absurd post hn
  | ex c fs => rw [e] at post; exact hx c fs post
  | no => rw [e] at post; exact hn post
theorem ve_and {rest : List Expr} {f g : VEnv → Rs RV} (h : VE ca W X a f) (h2 : VE ca W X (.BoolOp .And (b :: rest) pos) g) : VE ca W X (.BoolOp .And (a :: b :: rest) pos) (vAnd f g) := by
  obtain ⟨t, pe, se⟩ := h
  obtain ⟨u, pu, su⟩ := h2
  refine ⟨_, pe_and pe pu, fun B F env σ H Q st p => ?_⟩
  show t σ H fun x H1 => ∃ c, x = .bl c ∧ if c = true then u σ H1 Q else Q (.bl false) H1
  refine seqBE (PostE X.K ca W σ F H Q) se st p (fun _ _ h => h) (fun h => h) fun x F1 H1 p1 g1 => ⟨x, rfl, ?_⟩
  cases x with
  | true => rw [if_pos rfl]; rw [if_pos rfl] at p1; exact su B F1 env σ H1 Q (st.grow g1) (PostE.mono g1 p1)
  | false => rw [if_neg Bool.false_ne_true]; rw [if_neg Bool.false_ne_true] at p1; exact p1 _ _ _ g1 (.bl false)
theorem ve_or {rest : List Expr} {f g : VEnv → Rs RV} (h : VE ca W X a f) (h2 : VE ca W X (.BoolOp .Or (b :: rest) pos) g) : VE ca W X (.BoolOp .Or (a :: b :: rest) pos) (vOr f g) := by
  obtain ⟨t, pe, se⟩ := h
  obtain ⟨u, pu, su⟩ := h2
  refine ⟨_, pe_or pe pu, fun B F env σ H Q st p => ?_⟩
  show t σ H fun x H1 => ∃ c, x = .bl c ∧ if c = true then Q (.bl true) H1 else u σ H1 Q
  refine seqBE (PostE X.K ca W σ F H Q) se st p (fun _ _ h => h) (fun h => h) fun x F1 H1 p1 g1 => ⟨x, rfl, ?_⟩
  cases x with
  | false => rw [if_neg Bool.false_ne_true]; rw [if_neg Bool.false_ne_true] at p1; exact su B F1 env σ H1 Q (st.grow g1) (PostE.mono g1 p1)
  | true => rw [if_pos rfl]; rw [if_pos rfl] at p1; exact p1 _ _ _ g1 (.bl true)
theorem ve_not {f : VEnv → Rs RV} (h : VE ca W X a f) : VE ca W X (.UnaryOp .Not a pos) (vNot f) := by
  obtain ⟨t, pe, se⟩ := h
  refine ⟨_, pe_not pe, fun B F env σ H Q st p => ?_⟩
  show t σ H fun x H1 => ∃ c, x = .bl c ∧ Q (.bl (!c)) H1
  exact seqBE (PostE X.K ca W σ F H Q) se st p (fun _ _ h => h) (fun h => h) fun x F1 H1 p1 g1 => ⟨x, rfl, p1 _ _ _ g1 (.bl _)⟩
def vIf (t : VEnv → Rs Bool) (f g : VEnv → Rs RV) : VEnv → Rs RV := fun env => (t env).bind fun b => if b = true then f env else g env
theorem ve_ifExp {c : Expr} {tc : VEnv → Rs Bool} (hc : VT ca W X c tc) (ha : VE ca W X a fa) (hb : VE ca W X b fb) : VE ca W X (.IfExp c a b pos) (vIf tc fa fb) := by
  obtain ⟨t, pe, se⟩ := hc
  obtain ⟨ta, pa, sa⟩ := ha
  obtain ⟨tb, pb, sb⟩ := hb
  refine ⟨_, pe_ifExp pe pa pb, fun B F env σ H Q st p => ?_⟩
  show t σ H fun c H1 => if c = true then ta σ H1 Q else tb σ H1 Q
  refine seqT (PostE X.K ca W σ F H Q) se st p (fun _ _ h => h) (fun h => h) fun x F1 H1 p1 g1 => ?_
  cases x with
  | true => rw [if_pos rfl]; rw [if_pos rfl] at p1; exact sa B F1 env σ H1 Q (st.grow g1) (PostE.mono g1 p1)
  | false => rw [if_neg Bool.false_ne_true]; rw [if_neg Bool.false_ne_true] at p1; exact sb B F1 env σ H1 Q (st.grow g1) (PostE.mono g1 p1)

/-! ## calls -/
theorem snd_call {K : PySem.W.Frag} {r : List V → Hp → VK → Prop} {g : List RV → Rs RV} {t : TA} {f : VEnv → Rs (List RV)} (hr : CaS K ca r g) (sa : SndA K ca W t f) : SndE K ca W (tCB r t) (cA g f) := by
  intro B F env σ H Q st p
  show t σ H fun vs H1 => r vs H1 Q
  refine seqA (PostE K ca W σ F H Q) sa st p (fun _ _ h => h) (fun h => h) fun rs F1 H1 vs p1 g1 q1 => ?_
  exact hr W σ F H F1 H1 vs rs Q g1 q1 p1
theorem ve_callB {id : String} {x : Str} {p : Pos} {r : List V → Hp → VK → Prop} {g : List RV → Rs RV} {f : VEnv → Rs (List RV)} (hc : CallR X (.builtin id) r) (hr : CaS X.K ca r g) (hg : Gl X x) (hm : X.mg x = none) (hv : bootBuiltins x = some (.builtin id)) (ha : VA ca W X (e :: es) f) (hn : x ≠ "__name__" := by decide) (hdb : (x == ("__debug__" : Str)) = false := by decide)
    (he : starEach (e :: es) X.env = (false, eval e X.env) :: starEach es X.env := by rfl) (hpl : (backTo pos (starEach es X.env)).any (·.1) = false := by rfl) : VE ca W X (.Call (.Name x p) (e :: es) [] pos) (cA g f) := by
  obtain ⟨t, pa, sa⟩ := ha
  exact ⟨_, pe_callB hc hg hm hv pa hn hdb he hpl, snd_call hr sa⟩
theorem ve_callTy {T : String} {x : Str} {p : Pos} {r : List V → Hp → VK → Prop} {g : List RV → Rs RV} {f : VEnv → Rs (List RV)} (hc : CallR X (.type T) r) (hr : CaS X.K ca r g) (hg : Gl X x) (hm : X.mg x = none) (hv : bootBuiltins x = some (.type T)) (ha : VA ca W X (e :: es) f) (hn : x ≠ "__name__" := by decide) (hdb : (x == ("__debug__" : Str)) = false := by decide)
    (he : starEach (e :: es) X.env = (false, eval e X.env) :: starEach es X.env := by rfl) (hpl : (backTo pos (starEach es X.env)).any (·.1) = false := by rfl) : VE ca W X (.Call (.Name x p) (e :: es) [] pos) (cA g f) := by
  obtain ⟨t, pa, sa⟩ := ha
  exact ⟨_, pe_callTy hc hg hm hv pa hn hdb he hpl, snd_call hr sa⟩
end
end VL

namespace VL
open PySem PySem.Spec PyProof.Rows L2

/-! ## statements -/
inductive Out where
  | nx (env : VEnv) | rt (r : RV) | bk (env : VEnv) | ct (env : VEnv)
  | ex (c : Nat) (fs : List (Str × PyData)) (env : VEnv)
  | no
def Out.then : Out → (VEnv → Out) → Out
  | .nx env, f => f env
  | o, _ => o
@[simp] theorem Out.then_nx (env f) : (Out.nx env).then f = f env := rfl
@[simp] theorem Out.then_rt (r f) : (Out.rt r).then f = .rt r := rfl
@[simp] theorem Out.then_bk (r f) : (Out.bk r).then f = .bk r := rfl
@[simp] theorem Out.then_ct (r f) : (Out.ct r).then f = .ct r := rfl
@[simp] theorem Out.then_ex (c fs e f) : (Out.ex c fs e).then f = .ex c fs e := rfl
@[simp] theorem Out.then_no (f) : Out.no.then f = .no := rfl
def Rs.out {α : Type} (m : Rs α) (env : VEnv) (f : α → Out) : Out := match m with
  | .ok a => f a
  | .ex c fs => .ex c fs env
  | .no => .no
@[simp] theorem Rs.out_ok {α : Type} (a : α) (env f) : (Rs.ok a).out env f = f a := rfl
@[simp] theorem Rs.out_ex {α : Type} (c fs env) (f : α → Out) : (Rs.ex c fs : Rs α).out env f = .ex c fs env := rfl
@[simp] theorem Rs.out_no {α : Type} (env) (f : α → Out) : (Rs.no : Rs α).out env f = .no := rfl

section
variable (K : PySem.W.Frag) (ca : Nat → Addr) (W : WX) (B : Base) (F0 : Hp)
def PostS (D : Ends) : Out → Prop
  | .nx env => ∀ F σ H, Same F0 F → StOk K B F env σ H → D.nx σ H
  | .bk env => ∀ F σ H, Same F0 F → StOk K B F env σ H → D.bk σ H
  | .ct env => ∀ F σ H, Same F0 F → StOk K B F env σ H → D.ct σ H
  | .rt r => ∀ F H v, Grow B.F B.H F H → RVok K B.H F H v r → D.rt v H
  | .ex c fs env => ∀ F σ H cls dx, Same F0 F → StOk K B F env σ H → ExOk K ca F H cls dx c fs → W cls dx σ H
  | .no => False
end
theorem PostS.mono {K : PySem.W.Frag} {ca : Nat → Addr} {W : WX} {B : Base} {F0 F1 : Hp} {D : Ends} {o : Out} (e : Same F0 F1) (h : PostS K ca W B F0 D o) : PostS K ca W B F1 D o := by
  cases o with
  | nx env => exact fun F σ H s st => h F σ H (e.trans s) st
  | bk env => exact fun F σ H s st => h F σ H (e.trans s) st
  | ct env => exact fun F σ H s st => h F σ H (e.trans s) st
  | rt r => exact h
  | ex c fs env => exact fun F σ H cls dx s st => h F σ H cls dx (e.trans s) st
  | no => exact h
def SndS (K : PySem.W.Frag) (ca : Nat → Addr) (W : WX) (t : TS) (f : VEnv → Out) : Prop := ∀ B F env σ H D, StOk K B F env σ H → PostS K ca W B F D (f env) → t D σ H
structure VS (ca : Nat → Addr) (W : WX) (X : Cx) (st : Stmt) (f : VEnv → Out) : Prop where
  ex : ∃ t, PS X st t ∧ SndS X.K ca W t f
structure VSs (ca : Nat → Addr) (W : WX) (X : Cx) (st : List Stmt) (f : VEnv → Out) : Prop where
  ex : ∃ t, PSs X st t ∧ SndS X.K ca W t f

section
variable {K : PySem.W.Frag} {ca : Nat → Addr} {W : WX} {B : Base} {F H : Hp} {env : VEnv} {σ : L2.St}
theorem exOut {c : Nat} {fs : List (Str × PyData)} {D : Ends} (st : StOk K B F env σ H) (h : PostS K ca W B F D (.ex c fs env)) : PostX K ca W σ F H c fs :=
  fun F' H' cls dx g e => h F' σ H' cls dx g.ff (st.grow g) e
theorem outE {t : TE} {f : VEnv → Rs RV} {Q : VK} {D : Ends} {k : RV → Out} (s : SndE K ca W t f) (st : StOk K B F env σ H)
    (post : PostS K ca W B F D ((f env).out env k)) (h : ∀ r F1 H1 v, PostS K ca W B F1 D (k r) → Grow F H F1 H1 → RVok K H F1 H1 v r → Q v H1) : t σ H Q := by
  refine s B F env σ H Q st ?_
  cases e : f env with
  | ok r => rw [e] at post; exact fun F' H' v g q => h r F' H' v (PostS.mono g.ff post) g q
  | ex c fs => rw [e] at post; exact exOut st post
  | no => rw [e] at post; exact post
theorem outT {t : TT} {f : VEnv → Rs Bool} {Q : Bool → Hp → Prop} {D : Ends} {k : Bool → Out} (s : SndT K ca W t f) (st : StOk K B F env σ H)
    (post : PostS K ca W B F D ((f env).out env k)) (h : ∀ r F1 H1, PostS K ca W B F1 D (k r) → Grow F H F1 H1 → Q r H1) : t σ H Q := by
  refine s B F env σ H Q st ?_
  cases e : f env with
  | ok r => rw [e] at post; exact fun F' H' g => h r F' H' (PostS.mono g.ff post) g
  | ex c fs => rw [e] at post; exact exOut st post
  | no => rw [e] at post; exact post
/-- a slot gets a value of its own or plain data -/
theorem StOk.put (st : StOk K B F env σ H) {i : Nat} (hi : i < env.length) {v : V} {r : RV} (q : RVok K B.H F H v r) (hb : r.isB = false)
    (hd : r.own = true → ∀ (j : Nat) (r' : RV) (p : Addr), j ≠ i → env[j]? = some (some r') → r'.own = true → v = .ref p → σ[j]? ≠ some (some (.ref p))) : StOk K B F (env.set i (some r)) (σ.set i (some v)) H := by
  have hi' : i < σ.length := by rw [← st.len]; exact hi
  refine ⟨st.gr, by simp [st.len], fun j r1 e => ?_, fun j r1 p e o s => ?_, fun j k r1 r2 p jk e1 e2 o1 o2 s1 s2 => ?_⟩
  · by_cases h : i = j
    · subst h
      rw [List.getElem?_set_self hi] at e
      cases e
      exact ⟨v, by rw [List.getElem?_set_self hi'], q⟩
    · rw [List.getElem?_set_ne h] at e
      obtain ⟨w, e1, q1⟩ := st.sl j r1 e
      exact ⟨w, by rw [List.getElem?_set_ne h]; exact e1, q1⟩
  · by_cases h : i = j
    · subst h
      rw [List.getElem?_set_self hi] at e
      cases e
      rw [hb] at o; cases o
    · rw [List.getElem?_set_ne h] at e s
      exact st.bo j r1 p e o s
  · by_cases h1 : i = j
    · subst h1
      rw [List.getElem?_set_self hi] at e1
      rw [List.getElem?_set_self hi'] at s1
      rw [List.getElem?_set_ne jk] at e2 s2
      cases e1
      exact hd o1 k r2 p (Ne.symm jk) e2 o2 (Option.some.inj (Option.some.inj s1)) s2
    · rw [List.getElem?_set_ne h1] at e1 s1
      by_cases h2 : i = k
      · subst h2
        rw [List.getElem?_set_self hi] at e2
        rw [List.getElem?_set_self hi'] at s2
        cases e2
        exact hd o2 j r1 p (Ne.symm h1) e1 o1 (Option.some.inj (Option.some.inj s2)) s1
      · rw [List.getElem?_set_ne h2] at e2 s2
        exact st.dis j k r1 r2 p jk e1 e2 o1 o2 s1 s2
/-- a value that came out of an expression over this state -/
theorem StOk.putE {F1 H1 : Hp} (st : StOk K B F env σ H) (g : Grow F H F1 H1) {i : Nat} (hi : i < env.length) {v : V} {r : RV} (q : RVok K H F1 H1 v r) (hb : r.isB = false) : StOk K B F1 (env.set i (some r)) (σ.set i (some v)) H1 := by
  refine (st.grow g).put hi (q.older st.gr.hh) hb fun o j r' p ji e o' ev s => ?_
  obtain ⟨w, e1, q1⟩ := st.sl j r' e
  rw [s] at e1
  cases e1
  have hp : ∃ ob, H p = some ob := by
    cases r' with
    | ol xs => obtain ⟨a, vs, z, _, _, hp, _⟩ := q1; cases z; exact ⟨_, hp⟩
    | od xs => obtain ⟨a, vs, z, _, _, hp, _⟩ := q1; cases z; exact ⟨_, hp⟩
    | ot xs => obtain ⟨a, vs, z, _, _, hp, _⟩ := q1; cases z; exact ⟨_, hp⟩
    | _ => cases o'
  obtain ⟨ob, hp⟩ := hp
  have hn : H p = none := by
    cases r with
    | ol xs => obtain ⟨a, vs, z, n, _⟩ := q; rw [ev] at z; cases z; exact n
    | od xs => obtain ⟨a, vs, z, n, _⟩ := q; rw [ev] at z; cases z; exact n
    | ot xs => obtain ⟨a, vs, z, n, _⟩ := q; rw [ev] at z; cases z; exact n
    | _ => cases o
  rw [hn] at hp; cases hp
/-- a slot forgotten -/
theorem StOk.drop (st : StOk K B F env σ H) (i : Nat) : StOk K B F (env.set i none) (σ.set i none) H := by
  refine ⟨st.gr, by simp [st.len], fun j r1 e => ?_, fun j r1 p e o s => ?_, fun j k r1 r2 p jk e1 e2 o1 o2 s1 s2 => ?_⟩
  · by_cases h : i = j
    · subst h
      by_cases hi : i < env.length
      · rw [List.getElem?_set_self hi] at e; cases e
      · rw [List.getElem?_eq_none (by simpa using hi)] at e; cases e
    · rw [List.getElem?_set_ne h] at e
      obtain ⟨w, e1, q1⟩ := st.sl j r1 e
      exact ⟨w, by rw [List.getElem?_set_ne h]; exact e1, q1⟩
  · by_cases h : i = j
    · subst h
      by_cases hi : i < env.length
      · rw [List.getElem?_set_self hi] at e; cases e
      · rw [List.getElem?_eq_none (by simpa using hi)] at e; cases e
    · rw [List.getElem?_set_ne h] at e s
      exact st.bo j r1 p e o s
  · by_cases h1 : i = j
    · subst h1
      by_cases hi : i < env.length
      · rw [List.getElem?_set_self hi] at e1; cases e1
      · rw [List.getElem?_eq_none (by simpa using hi)] at e1; cases e1
    · by_cases h2 : i = k
      · subst h2
        by_cases hi : i < env.length
        · rw [List.getElem?_set_self hi] at e2; cases e2
        · rw [List.getElem?_eq_none (by simpa using hi)] at e2; cases e2
      · rw [List.getElem?_set_ne h1] at e1 s1
        rw [List.getElem?_set_ne h2] at e2 s2
        exact st.dis j k r1 r2 p jk e1 e2 o1 o2 s1 s2
end

/-! ### freezing a slot's list -/
def fzE (i : Nat) (env : VEnv) : VEnv := match env[i]? with
  | some (some (.ol xs)) => env.set i (some (.d (.list xs)))
  | _ => env
theorem StOk.fz {K : PySem.W.Frag} {B : Base} {F H : Hp} {env : VEnv} {σ : L2.St} (st : StOk K B F env σ H) (i : Nat) : ∃ F', Same F F' ∧ StOk K B F' (fzE i env) σ H := by
  unfold fzE
  split
  · rename_i xs e
    obtain ⟨v, e1, p, vs, rfl, n0, f, hp, q⟩ := st.sl i _ e
    have hi : i < env.length := (List.getElem?_eq_some_iff.mp e).1
    have s1 : Same F (upd F p (.lst vs)) := fun b u k => by rw [upd_ne (ne_of_none k f)]; exact k
    refine ⟨upd F p (.lst vs), s1, st.gr.freeze n0 f hp, by simpa using st.len, fun j r e2 => ?_, fun j r a e2 o z => ?_, fun j k r1 r2 a jk q1 q2 o1 o2 z1 z2 => ?_⟩
    · by_cases h : i = j
      · subst h
        rw [List.getElem?_set_self hi] at e2
        cases e2
        exact ⟨_, e1, .lst upd_same (DqA.mono s1 _ _ q)⟩
      · rw [List.getElem?_set_ne h] at e2
        obtain ⟨w, e3, q3⟩ := st.sl j r e2
        refine ⟨w, e3, ?_⟩
        have ne : ∀ a, r.own = true → w = .ref a → a ≠ p := fun a o z y => by
          subst y; subst z
          exact st.dis i j (.ol xs) r a h e e2 rfl o e1 e3
        cases r with
        | d x => exact Dq.mono s1 x w q3
        | ol ys => obtain ⟨a, ws, z, n, f2, h2, q4⟩ := q3; exact ⟨a, ws, z, n, by rw [upd_ne (ne a rfl z)]; exact f2, h2, DqA.mono s1 _ _ q4⟩
        | od ys => obtain ⟨a, ws, z, n, f2, h2, q4⟩ := q3; exact ⟨a, ws, z, n, by rw [upd_ne (ne a rfl z)]; exact f2, h2, q4.mono s1⟩
        | ot ys => obtain ⟨a, ws, z, n, f2, h2, q4⟩ := q3; exact ⟨a, ws, z, n, by rw [upd_ne (ne a rfl z)]; exact f2, h2, q4.mono s1⟩
        | sc ns => obtain ⟨a, z, q4⟩ := q3; exact ⟨a, z, s1.seq q4⟩
        | bl ys => obtain ⟨a, ws, z, h2, q4⟩ := q3; exact ⟨a, ws, z, h2, DqA.mono s1 _ _ q4⟩
        | bd ys => obtain ⟨a, ws, z, h2, q4⟩ := q3; exact ⟨a, ws, z, h2, q4.mono s1⟩
        | bt ys => obtain ⟨a, ws, z, h2, q4⟩ := q3; exact ⟨a, ws, z, h2, q4.mono s1⟩
        | xo a dd c fs => obtain ⟨z, ws, h2, q4⟩ := q3; exact ⟨z, ws, h2, q4.mono s1⟩
        | t3 x ys kvs => exact t3_mono s1 q3
        | fd kvs => exact fd_mono s1 q3
    · by_cases h : i = j
      · subst h; rw [List.getElem?_set_self hi] at e2; cases e2; cases o
      · rw [List.getElem?_set_ne h] at e2
        exact st.bo j r a e2 o z
    · by_cases h1 : i = j
      · subst h1; rw [List.getElem?_set_self hi] at q1; cases q1; cases o1
      · by_cases h2 : i = k
        · subst h2; rw [List.getElem?_set_self hi] at q2; cases q2; cases o2
        · rw [List.getElem?_set_ne h1] at q1
          rw [List.getElem?_set_ne h2] at q2
          exact st.dis j k r1 r2 a jk q1 q2 o1 o2 z1 z2
  · exact ⟨F, Same.refl _, st⟩
end VL

namespace VL
open PySem PySem.Spec PyProof.Rows L2

section
variable {ca : Nat → Addr} {W : WX} {X : Cx} {a b e : Expr} {es : List Expr} {fa fb : VEnv → Rs RV} {pos : Pos} {st : Stmt} {rest : List Stmt} {f g : VEnv → Out}
/-! ### blocks -/
def sNil : VEnv → Out := fun env => .nx env
def sSeq (f g : VEnv → Out) : VEnv → Out := fun env => (f env).then g
theorem vss_nil : VSs ca W X [] sNil := ⟨_, pss_nil, fun _ _ _ _ _ _ st p => p _ _ _ (Same.refl _) st⟩
theorem vss_cons (h1 : VS ca W X st f) (h2 : VSs ca W X rest g) : VSs ca W X (st :: rest) (sSeq f g) := by
  obtain ⟨t, p1, s1⟩ := h1
  obtain ⟨u, p2, s2⟩ := h2
  refine ⟨_, pss_cons p1 p2, fun B F env σ H D st p => ?_⟩
  show t { D with nx := u D } σ H
  refine s1 B F env σ H _ st ?_
  unfold sSeq at p
  cases e : f env with
  | nx env' => rw [e] at p; exact fun F' σ' H' s st' => s2 B F' env' σ' H' D st' (PostS.mono s p)
  | bk env' => rw [e] at p; exact p
  | ct env' => rw [e] at p; exact p
  | rt r => rw [e] at p; exact p
  | ex c fs env' => rw [e] at p; exact p
  | no => rw [e] at p; exact p
theorem vss_one (h1 : VS ca W X st f) : VSs ca W X [st] f := by
  obtain ⟨t, p1, s1⟩ := h1
  exact ⟨_, pss_one p1, s1⟩
def sFz (i : Nat) (f : VEnv → Out) : VEnv → Out := fun env => f (fzE i env)
theorem vs_fz (i : Nat) (h : VS ca W X st f) : VS ca W X st (sFz i f) := by
  obtain ⟨t, p1, s1⟩ := h
  refine ⟨t, p1, fun B F env σ H D st p => ?_⟩
  obtain ⟨F', s, st'⟩ := st.fz i
  exact s1 B F' (fzE i env) σ H D st' (PostS.mono s p)
/-! ### small statements -/
def sBk : VEnv → Out := fun env => .bk env
def sCt : VEnv → Out := fun env => .ct env
theorem vs_pass : VS ca W X (.Pass pos) sNil := ⟨_, ps_pass, fun _ _ _ _ _ _ st p => p _ _ _ (Same.refl _) st⟩
theorem vs_break : VS ca W X (.Break pos) sBk := ⟨_, ps_break, fun _ _ _ _ _ _ st p => p _ _ _ (Same.refl _) st⟩
theorem vs_continue : VS ca W X (.Continue pos) sCt := ⟨_, ps_continue, fun _ _ _ _ _ _ st p => p _ _ _ (Same.refl _) st⟩
/-- no borrowed thing is handed on -/
def RV.nb : RV → Rs RV
  | .bl _ | .bd _ | .bt _ => .no
  | r => .ok r
def sRet (fe : VEnv → Rs RV) : VEnv → Out := fun env => (fe env).out env fun r => (r.nb).out env .rt
theorem vs_ret (he : VE ca W X e fa) : VS ca W X (.Return (some e) pos) (sRet fa) := by
  obtain ⟨t, pe, se⟩ := he
  refine ⟨_, ps_ret pe, fun B F env σ H D st p => ?_⟩
  refine outE (t := t) (Q := D.rt) se st p fun r F1 H1 v p1 g q => ?_
  cases r with
  | bl _ => exact p1.elim
  | bd _ => exact p1.elim
  | bt _ => exact p1.elim
  | _ => exact p1 F1 H1 v (st.gr.trans g) (q.older st.gr.hh)
/-- return x, x a list or dict of the def's own -/
def sRetV (i : Nat) : VEnv → Out := fun env => match env[i]? with
  | some (some r) => (r.nb).out env .rt
  | _ => .no
theorem vs_retv (i : Nat) {x : Str} {p' : Pos} (hN : X.N[i]? = some x := by rfl) (hv : Vis X.env.scope x := by first | exact Or.inl rfl | exact Or.inr (Or.inl rfl) | exact Or.inr (Or.inr rfl)) (hd : (x == ("__debug__" : Str)) = false := by decide)
    (hcd : (x == ("__classdict__" : Str)) = false := by decide) : VS ca W X (.Return (some (.Name x p')) pos) (sRetV i) := by
  refine ⟨_, ps_ret (pe_var hN hv hd hcd), fun B F env σ H D st p => ?_⟩
  unfold sRetV at p
  split at p
  · rename_i r e
    obtain ⟨v, e1, h⟩ := st.sl i r e
    refine ⟨v, e1, ?_⟩
    cases r with
    | bl _ => exact p.elim
    | bd _ => exact p.elim
    | bt _ => exact p.elim
    | _ => exact p F H v st.gr h
  · exact p.elim
def sRetN : VEnv → Out := fun _ => .rt (.d .none)
theorem vs_retN : VS ca W X (.Return none pos) sRetN := ⟨_, ps_retN, fun _ _ _ _ _ _ st p => p _ _ _ st.gr .non⟩
def sDrop (fe : VEnv → Rs RV) : VEnv → Out := fun env => (fe env).out env fun _ => .nx env
theorem vs_expr (he : VE ca W X e fa) (hs : swapsWith e none pos.line X.env = pure false := by rfl) : VS ca W X (.Expr e pos) (sDrop fa) := by
  obtain ⟨t, pe, se⟩ := he
  refine ⟨_, ps_expr pe hs, fun B F env σ H D st p => ?_⟩
  show t σ H fun _ H1 => D.nx σ H1
  exact outE se st p fun r F1 H1 v p1 g q => p1 F1 σ H1 (Same.refl _) (st.grow g)
/-- a name gets a value -/
def putS (i : Nat) (r : RV) (env : VEnv) : Out := (r.nb).out env fun r => if i < env.length then .nx (env.set i (some r)) else .no
def sSet (i : Nat) (fe : VEnv → Rs RV) : VEnv → Out := fun env => (fe env).out env fun r => putS i r env
theorem snd_put {K : PySem.W.Frag} {B : Base} {F H F1 H1 : Hp} {env : VEnv} {σ : L2.St} {D : Ends} {i : Nat} {r : RV} {v : V} (st : StOk K B F env σ H) (g : Grow F H F1 H1) (q : RVok K H F1 H1 v r) (p : PostS K ca W B F1 D (putS i r env)) : D.nx (σ.set i (some v)) H1 := by
  unfold putS at p
  have go : ∀ r' : RV, r.nb = .ok r' → r' = r := fun r' e => by cases r <;> cases e <;> rfl
  cases e : r.nb with
  | ok r' =>
    rw [e] at p
    cases go r' e
    simp only [Rs.out_ok] at p
    split at p
    · rename_i hi
      exact p F1 _ H1 (Same.refl _) (st.putE g hi q (by cases r <;> first | rfl | cases e))
    · exact p.elim
  | ex c fs => exact absurd e (by cases r <;> simp [RV.nb])
  | no => rw [e] at p; exact p.elim
theorem vs_set {i : Nat} {x : Str} {pos' : Pos} (hN : X.N.Nodup) (hi : X.N[i]? = some x) (hx : Loc X.env.scope x) (he : VE ca W X e fa) (hs : swapsWith e (some (.Name x pos')) pos.line X.env = pure false := by rfl) (hf : X.fn x = true ∨ X.env.scope.names.lookup x = some .local := by first | exact .inl rfl | exact .inr rfl | assumption) :
    VS ca W X (.Assign [.Name x pos'] e pos) (sSet i fa) := by
  obtain ⟨t, pe, se⟩ := he
  refine ⟨_, ps_set hN hi hx pe hs hf, fun B F env σ H D st p => ?_⟩
  show t σ H fun x H1 => D.nx (σ.set i (some x)) H1
  exact outE se st p fun r F1 H1 v p1 g q => snd_put st g q p1
def sIf (c : VEnv → Rs Bool) (f g : VEnv → Out) : VEnv → Out := fun env => (c env).out env fun b => if b = true then f env else g env
theorem vs_if {c : Expr} {ss tt : List Stmt} {tc : VEnv → Rs Bool} (hc : VT ca W X c tc) (ha : VSs ca W X ss f) (hb : VSs ca W X tt g) : VS ca W X (.If c ss tt pos) (sIf tc f g) := by
  obtain ⟨t, pe, se⟩ := hc
  obtain ⟨ta, pa, sa⟩ := ha
  obtain ⟨tb, pb, sb⟩ := hb
  refine ⟨_, ps_if pe pa pb, fun B F env σ H D st p => ?_⟩
  show t σ H fun b H1 => if b = true then ta D σ H1 else tb D σ H1
  refine outT se st p fun b F1 H1 p1 g => ?_
  cases b with
  | true => rw [if_pos rfl]; rw [if_pos rfl] at p1; exact sa B F1 env σ H1 D (st.grow g) p1
  | false => rw [if_neg Bool.false_ne_true]; rw [if_neg Bool.false_ne_true] at p1; exact sb B F1 env σ H1 D (st.grow g) p1

/-! ### while -/
def loopW (c : VEnv → Rs Bool) (f : VEnv → Out) : Nat → VEnv → Out
  | 0, _ => .no
  | n + 1, env => (c env).out env fun b => if b = true then
      (match f env with
        | .nx e => loopW c f n e
        | .ct e => loopW c f n e
        | .bk e => .nx e
        | o => o) else .nx env
def sWhile (n : Nat) (c : VEnv → Rs Bool) (f : VEnv → Out) : VEnv → Out := loopW c f n
theorem vs_while {c : Expr} {body : List Stmt} {tc : VEnv → Rs Bool} (n : Nat) (hp : PassesOwn (model X.prog X.w) X.A X.env X.xe) (hc : VT ca W X c tc) (hb : VSs ca W X body f) : VS ca W X (.While c body [] pos) (sWhile n tc f) := by
  obtain ⟨t, pe, se⟩ := hc
  obtain ⟨tb, pb, sb⟩ := hb
  refine ⟨_, ps_while hp pe pb, fun B F env σ H D st p => ?_⟩
  refine ⟨fun m σ H => ∃ F' env', Same F F' ∧ StOk X.K B F' env' σ H ∧ PostS X.K ca W B F' D (loopW tc f m env'), ⟨n, F, env, Same.refl _, st, p⟩, ?_⟩
  rintro m σ1 H1 ⟨F1, env1, s1, st1, p1⟩
  cases m with
  | zero => exact p1.elim
  | succ m =>
    unfold loopW at p1
    refine outT se st1 p1 fun b F2 H2 p2 g => ?_
    cases b with
    | false => rw [if_neg Bool.false_ne_true]; rw [if_neg Bool.false_ne_true] at p2; exact p2 F2 σ1 H2 (Same.refl _) (st1.grow g)
    | true =>
      rw [if_pos rfl]; rw [if_pos rfl] at p2
      refine ⟨fun σ' H' => ∃ F' env', Same F F' ∧ StOk X.K B F' env' σ' H' ∧ PostS X.K ca W B F' D (loopW tc f m env'), fun σ' H' z => ⟨m, Nat.lt_succ_self m, z⟩, ?_⟩
      refine sb B F2 env1 σ1 H2 _ (st1.grow g) ?_
      cases e : f env1 with
      | nx env' => rw [e] at p2; exact fun F' σ' H' s st' => ⟨F', env', (s1.trans g.ff).trans s, st', PostS.mono s p2⟩
      | ct env' => rw [e] at p2; exact fun F' σ' H' s st' => ⟨F', env', (s1.trans g.ff).trans s, st', PostS.mono s p2⟩
      | bk env' => rw [e] at p2; exact p2
      | rt r => rw [e] at p2; exact p2
      | ex c fs env' => rw [e] at p2; exact p2
      | no => rw [e] at p2; exact p2

/-! ### what is walked -/
structure JWalk (J : It) (G : Hp) (vs : List V) : Prop where
  go : ∀ i H, Same G H → i < vs.length → J.go i H
  yld : ∀ i H x H', Same G H → J.yld i H x H' → i < vs.length → H' = H ∧ vs[i]? = some x
  stop : ∀ H, Same G H → J.stop vs.length H
theorem jw_list {K : PySem.W.Frag} {G : Hp} {a : Addr} {vs : List V} (h : SqL K G a vs) : JWalk (Itl K a) G vs where
  go := fun i H s hi => ⟨vs, vs[i], s.seq h, by simp [hi]⟩
  yld := fun i H x H' s y hi => ⟨y.1, y.2 vs (s.seq h)⟩
  stop := fun H s => ⟨vs, s.seq h, Nat.le_refl _⟩
theorem jw_tup {K : PySem.W.Frag} {G : Hp} {a : Addr} {vs : List V} (h : SqT K G a vs) : JWalk (Itt K a) G vs where
  go := fun i H s hi => ⟨vs, vs[i], same_seqT s h, by simp [hi]⟩
  yld := fun i H x H' s y hi => ⟨y.1, y.2 vs (same_seqT s h)⟩
  stop := fun H s => ⟨vs, same_seqT s h, Nat.le_refl _⟩
def rngL (lo : Int) (n : Nat) : List PyData := (List.range n).map fun i : Nat => .int (lo + (i : Int))
theorem jw_rng {G : Hp} (lo : Int) (n : Nat) : JWalk (Itr lo n) G ((List.range n).map fun i : Nat => V.int (lo + (i : Int))) where
  go := fun i H s hi => by
    have hi' : i < n := by simpa using hi
    exact hi'
  yld := fun i H x H' s y hi => by
    have hi' : i < n := by simpa using hi
    refine ⟨y.1, ?_⟩
    rw [y.2, List.getElem?_map, List.getElem?_range hi']
    rfl
  stop := fun H s => by show n ≤ _; simp
def PostI (K : PySem.W.Frag) (ca : Nat → Addr) (W : WX) (σ : L2.St) (F H : Hp) (R : It → Hp → Prop) : Rs (List PyData) → Prop
  | .ok xs => ∀ J F' H' vs, Grow F H F' H' → DqA K F' vs xs → JWalk J F' vs → R J H'
  | .ex c fs => PostX K ca W σ F H c fs
  | .no => False
def SndI (K : PySem.W.Frag) (ca : Nat → Addr) (W : WX) (t : TI) (f : VEnv → Rs (List PyData)) : Prop := ∀ B F env σ H R, StOk K B F env σ H → PostI K ca W σ F H R (f env) → t σ H R
structure VI (ca : Nat → Addr) (W : WX) (X : Cx) (tg iter : Expr) (f : VEnv → Rs (List PyData)) : Prop where
  ex : ∃ t, PI X tg iter t ∧ SndI X.K ca W t f
/-- for a comprehension: a borrowed list, too -/
def PostJ (K : PySem.W.Frag) (ca : Nat → Addr) (W : WX) (σ : L2.St) (F H : Hp) (R : It → Hp → Prop) : Rs (List PyData) → Prop
  | .ok xs => ∀ J F' H' vs, Grow F H F' H' → DqA K F' vs xs → JWalk J H' vs → R J H'
  | .ex c fs => PostX K ca W σ F H c fs
  | .no => False
def SndJ (K : PySem.W.Frag) (ca : Nat → Addr) (W : WX) (t : TI) (f : VEnv → Rs (List PyData)) : Prop := ∀ B F env σ H R, StOk K B F env σ H → PostJ K ca W σ F H R (f env) → t σ H R
structure VJ (ca : Nat → Addr) (W : WX) (X : Cx) (tg iter : Expr) (f : VEnv → Rs (List PyData)) : Prop where
  ex : ∃ t, PI X tg iter t ∧ SndJ X.K ca W t f
theorem JWalk.up {J : It} {G G' : Hp} {vs : List V} (h : JWalk J G vs) (s : Same G G') : JWalk J G' vs :=
  ⟨fun i H q => h.go i H (s.trans q), fun i H x H' q => h.yld i H x H' (s.trans q), fun H q => h.stop H (s.trans q)⟩
theorem VI.vj {tg iter : Expr} {f : VEnv → Rs (List PyData)} (h : VI ca W X tg iter f) : VJ ca W X tg iter f := by
  obtain ⟨t, p, s⟩ := h
  refine ⟨t, p, fun B F env σ H R st q => s B F env σ H R st ?_⟩
  cases e : f env with
  | ok xs => rw [e] at q; exact fun J F' H' vs g d j => q J F' H' vs g d (j.up g.cfg.sub)
  | ex c fs => rw [e] at q; exact q
  | no => rw [e] at q; exact q
def gL : RV → Rs (List PyData)
  | .d (.list xs) => .ok xs
  | .ol xs => .ok xs
  | .sc ns => .ok (ns.map .int)
  | _ => .no
def gT : RV → Rs (List PyData)
  | .d (.tuple xs) => .ok xs
  | _ => .no
def gLb : RV → Rs (List PyData)
  | .bl xs => .ok xs
  | r => gL r
def iL (fe : VEnv → Rs RV) : VEnv → Rs (List PyData) := fun env => (fe env).bind gL
def iT (fe : VEnv → Rs RV) : VEnv → Rs (List PyData) := fun env => (fe env).bind gT
def iLb (fe : VEnv → Rs RV) : VEnv → Rs (List PyData) := fun env => (fe env).bind gLb
theorem vi_list {tg : Expr} (h : VE ca W X e fa) : VI ca W X tg e (iL fa) := by
  obtain ⟨t, p, s⟩ := h
  refine ⟨_, pi_list p, fun B F env σ H R st q => ?_⟩
  show t σ H fun x H1 => ∃ a, x = .ref a ∧ (∃ xs, SqL X.K H1 a xs) ∧ R (Itl X.K a) H1
  refine seqE (PostI X.K ca W σ F H R) s st q (fun _ _ h => h) (fun h => h) fun r F1 H1 v p1 g1 q1 => ?_
  cases r with
  | d x =>
    cases x with
    | list xs =>
      cases q1 with
      | lst h1 h2 => exact ⟨_, rfl, ⟨_, SqL.of (g1.cfg.sub _ _ h1)⟩, p1 _ F1 H1 _ g1 h2 (jw_list (SqL.of h1))⟩
    | _ => exact p1.elim
  | ol xs =>
    obtain ⟨p, vs, rfl, n0, f, hp, q2⟩ := q1
    have g2 := g1.freeze n0 f hp
    have s2 : Same F1 (upd F1 p (.lst vs)) := fun b u k => by rw [upd_ne (ne_of_none k f)]; exact k
    exact ⟨p, rfl, ⟨_, SqL.of hp⟩, p1 _ _ H1 vs g2 (DqA.mono s2 _ _ q2) (jw_list (SqL.of upd_same))⟩
  | sc ns =>
    obtain ⟨a, rfl, q2⟩ := q1
    exact ⟨a, rfl, ⟨_, g1.cfg.sub.seq q2⟩, p1 _ F1 H1 _ g1 (DqA.of_ints ns) (jw_list q2)⟩
  | _ => exact p1.elim
theorem vi_tup {tg : Expr} (h : VE ca W X e fa) : VI ca W X tg e (iT fa) := by
  obtain ⟨t, p, s⟩ := h
  refine ⟨_, pi_tup p, fun B F env σ H R st q => ?_⟩
  show t σ H fun x H1 => ∃ a, x = .ref a ∧ (∃ xs, SqT X.K H1 a xs) ∧ R (Itt X.K a) H1
  refine seqE (PostI X.K ca W σ F H R) s st q (fun _ _ h => h) (fun h => h) fun r F1 H1 v p1 g1 q1 => ?_
  cases r with
  | d x =>
    cases x with
    | tuple xs =>
      cases q1 with
      | tup h1 h2 => exact ⟨_, rfl, ⟨_, same_seqT g1.cfg.sub h1.1⟩, p1 _ F1 H1 _ g1 h2 (jw_tup h1.1)⟩
    | _ => exact p1.elim
  | _ => exact p1.elim
theorem vj_list {tg : Expr} (h : VE ca W X e fa) : VJ ca W X tg e (iLb fa) := by
  obtain ⟨t, p, s⟩ := h
  refine ⟨_, pi_list p, fun B F env σ H R st q => ?_⟩
  show t σ H fun x H1 => ∃ a, x = .ref a ∧ (∃ xs, SqL X.K H1 a xs) ∧ R (Itl X.K a) H1
  refine seqE (PostJ X.K ca W σ F H R) s st q (fun _ _ h => h) (fun h => h) fun r F1 H1 v p1 g1 q1 => ?_
  cases r with
  | d x =>
    cases x with
    | list xs =>
      cases q1 with
      | lst h1 h2 => exact ⟨_, rfl, ⟨_, SqL.of (g1.cfg.sub _ _ h1)⟩, p1 _ F1 H1 _ g1 h2 (jw_list (SqL.of (g1.cfg.sub _ _ h1)))⟩
    | _ => exact p1.elim
  | ol xs =>
    obtain ⟨p, vs, rfl, n0, f, hp, q2⟩ := q1
    exact ⟨p, rfl, ⟨_, SqL.of hp⟩, p1 _ _ H1 vs g1 q2 (jw_list (SqL.of hp))⟩
  | bl xs =>
    obtain ⟨p, vs, rfl, hp, q2⟩ := q1
    exact ⟨p, rfl, ⟨_, SqL.of hp⟩, p1 _ _ H1 vs g1 q2 (jw_list (SqL.of hp))⟩
  | sc ns =>
    obtain ⟨a, rfl, q2⟩ := q1
    exact ⟨a, rfl, ⟨_, g1.cfg.sub.seq q2⟩, p1 _ F1 H1 _ g1 (DqA.of_ints ns) (jw_list (g1.cfg.sub.seq q2))⟩
  | _ => exact p1.elim
theorem vj_tup {tg : Expr} (h : VE ca W X e fa) : VJ ca W X tg e (iT fa) := (vi_tup h).vj
theorem DqA.rng {K : PySem.W.Frag} {F : Hp} (lo : Int) (n : Nat) : DqA K F ((List.range n).map fun i : Nat => V.int (lo + (i : Int))) (rngL lo n) := by
  have := DqA.of_ints (K := K) (F := F) ((List.range n).map fun i : Nat => lo + (i : Int))
  rw [List.map_map, List.map_map] at this
  exact this
def gR1 : List RV → Rs (List PyData)
  | [.d (.int j)] => if j.natAbs ≤ 1000000 then .ok (rngL 0 j.toNat) else .no
  | _ => .no
def gR2 : List RV → Rs (List PyData)
  | [.d (.int i), .d (.int j)] => if i.natAbs ≤ 1000000 ∧ j.natAbs ≤ 1000000 then .ok (rngL i (j - i).toNat) else .no
  | _ => .no
def iR (g : List RV → Rs (List PyData)) (fe : VEnv → Rs (List RV)) : VEnv → Rs (List PyData) := fun env => (fe env).bind g
theorem vi_range1 {tg : Expr} {p pos : Pos} {f : VEnv → Rs (List RV)} (hg : Gl X "range") (hm : X.mg "range" = none) (ha : VA ca W X [a] f) (hs : starEach [a] X.env = [(false, eval a X.env)] := by rfl) : VI ca W X tg (.Call (.Name "range" p) [a] [] pos) (iR gR1 f) := by
  obtain ⟨t, pa, sa⟩ := ha
  refine ⟨_, pi_range1 hg hm pa hs, fun B F env σ H R st q => ?_⟩
  show t σ H fun vs H1 => ∃ j : Int, vs = [.int j] ∧ -(2 ^ 62) ≤ j ∧ j < 2 ^ 62 ∧ R (Itr 0 j.toNat) H1
  refine seqA (PostI X.K ca W σ F H R) sa st q (fun _ _ h => h) (fun h => h) fun rs F1 H1 vs p1 g1 q1 => ?_
  unfold gR1 at p1
  split at p1
  · rename_i j
    split at p1
    · rename_i hj
      cases q1 with
      | cons h1 h2 =>
        cases h2
        cases h1
        exact ⟨j, rfl, by omega, by omega, p1 _ F1 H1 _ g1 (DqA.rng 0 j.toNat) (jw_rng 0 j.toNat)⟩
    · exact p1.elim
  · exact p1.elim
theorem vi_range2 {tg : Expr} {p pos : Pos} {f : VEnv → Rs (List RV)} (hg : Gl X "range") (hm : X.mg "range" = none) (ha : VA ca W X [a, b] f) (hs : starEach [a, b] X.env = [(false, eval a X.env), (false, eval b X.env)] := by rfl) (hs2 : starEach [b] X.env = [(false, eval b X.env)] := by rfl) : VI ca W X tg (.Call (.Name "range" p) [a, b] [] pos) (iR gR2 f) := by
  obtain ⟨t, pa, sa⟩ := ha
  refine ⟨_, pi_range2 hg hm pa hs hs2, fun B F env σ H R st q => ?_⟩
  show t σ H fun vs H1 => ∃ i j : Int, vs = [.int i, .int j] ∧ (-(2 ^ 62) ≤ i ∧ i < 2 ^ 62 ∧ -(2 ^ 62) ≤ j ∧ j < 2 ^ 62) ∧ R (Itr i (j - i).toNat) H1
  refine seqA (PostI X.K ca W σ F H R) sa st q (fun _ _ h => h) (fun h => h) fun rs F1 H1 vs p1 g1 q1 => ?_
  unfold gR2 at p1
  split at p1
  · rename_i i j
    split at p1
    · rename_i hj
      cases q1 with
      | cons h1 h2 =>
        cases h2 with
        | cons h3 h4 =>
          cases h4
          cases h1
          cases h3
          exact ⟨i, j, rfl, by omega, p1 _ F1 H1 _ g1 (DqA.rng i _) (jw_rng i _)⟩
    · exact p1.elim
  · exact p1.elim

/-! ### targets -/
inductive Tg where
  | nm (i : Nat) | tp (is : List Nat)
def tgEs : List Nat → List PyData → VEnv → Option VEnv
  | [], [], env => some env
  | i :: is, x :: xs, env => if i < env.length then tgEs is xs (env.set i (some (.d x))) else none
  | _, _, _ => none
def tgE : Tg → PyData → VEnv → Option VEnv
  | .nm i, x, env => if i < env.length then some (env.set i (some (.d x))) else none
  | .tp is, .tuple xs, env => tgEs is xs env
  | .tp _, _, _ => none
def gNms : List Nat → TGs
  | [] => gNil
  | i :: is => gCons (gName i) (gNms is)
def tgT (K : PySem.W.Frag) : Tg → TG
  | .nm i => gName i
  | .tp is => gTup K is.length (gNms is)
def setAll : List Nat → List V → L2.St → L2.St
  | i :: is, v :: vs, σ => setAll is vs (σ.set i (some v))
  | _, _, σ => σ
theorem StOk.putD {K : PySem.W.Frag} {B : Base} {F H : Hp} {env : VEnv} {σ : L2.St} (st : StOk K B F env σ H) {i : Nat} (hi : i < env.length) {v : V} {x : PyData} (q : Dq K F v x) : StOk K B F (env.set i (some (.d x))) (σ.set i (some v)) H :=
  st.put hi (r := .d x) q rfl fun o => by cases o
theorem snd_tgs {K : PySem.W.Frag} {B : Base} {F H : Hp} : ∀ {is : List Nat} {xs : List PyData} {vs : List V} {env env' : VEnv} {σ : L2.St} {Q : L2.St → Hp → Prop}, StOk K B F env σ H → DqA K F vs xs → tgEs is xs env = some env' → (StOk K B F env' (setAll is vs σ) H → Q (setAll is vs σ) H) → gNms is vs σ H Q
  | [], [], _, env, env', σ, Q, st, q, e, h => by cases q; cases e; exact ⟨rfl, h st⟩
  | [], _ :: _, _, env, env', σ, Q, st, q, e, h => by cases e
  | i :: is, [], _, env, env', σ, Q, st, q, e, h => by cases e
  | i :: is, x :: xs, _, env, env', σ, Q, st, q, e, h => by
    cases q with
    | cons h1 h2 =>
      rename_i v vs
      unfold tgEs at e
      split at e
      · rename_i hi
        exact ⟨v, vs, rfl, snd_tgs (st.putD hi h1) h2 e h⟩
      · cases e
def tgIx : Tg → List Nat
  | .nm i => [i]
  | .tp is => is
def tgSt (tg : Tg) (v : V) (vs : List V) (σ : L2.St) : L2.St := match tg with
  | .nm i => σ.set i (some v)
  | .tp is => setAll is vs σ
theorem snd_tg {K : PySem.W.Frag} {B : Base} {F H : Hp} {tg : Tg} {x : PyData} {v : V} {env env' : VEnv} {σ : L2.St} {Q : L2.St → Hp → Prop} (st : StOk K B F env σ H) (q : Dq K F v x) (e : tgE tg x env = some env') (h : ∀ vs, StOk K B F env' (tgSt tg v vs σ) H → Q (tgSt tg v vs σ) H) : tgT K tg v σ H Q := by
  cases tg with
  | nm i =>
    by_cases hi : i < env.length
    · have e' : some (env.set i (some (.d x))) = some env' := by simpa [tgE, hi] using e
      cases e'
      exact h [] (st.putD hi q)
    · simp [tgE, hi] at e
  | tp is =>
    cases x with
    | tuple xs =>
      cases q with
      | tup h1 h2 =>
        rename_i a vs
        refine ⟨a, vs, rfl, same_seqT st.cfg.sub h1.1, ?_, snd_tgs st h2 e (h vs)⟩
        rw [h2.length]
        have : ∀ (is : List Nat) (xs : List PyData) (env : VEnv), tgEs is xs env = some env' → xs.length = is.length := by
          intro is
          induction is with
          | nil => intro xs env e; cases xs with
            | nil => rfl
            | cons _ _ => cases e
          | cons i is ih => intro xs env e; cases xs with
            | nil => cases e
            | cons x xs =>
              unfold tgEs at e
              split at e
              · simp [ih xs _ e]
              · cases e
        exact this is xs env e
    | _ => cases e
structure VG (X : Cx) (target : Expr) (tg : Tg) : Prop where
  ex : PG X target (tgT X.K tg)
structure VGs (X : Cx) (es : List Expr) (is : List Nat) : Prop where
  ex : PGs X es (gNms is)
theorem vg_name {i : Nat} {x : Str} (hN : X.N.Nodup) (hi : X.N[i]? = some x) (hx : Loc X.env.scope x) (hf : X.fn x = true ∨ X.env.scope.names.lookup x = some .local := by first | exact .inl rfl | exact .inr rfl | assumption) : VG X (.Name x pos) (.nm i) := ⟨pg_name hN hi hx hf⟩
theorem vgs_nil : VGs X [] [] := ⟨pgs_nil⟩
theorem vgs_cons {i : Nat} {x : Str} {is : List Nat} (hN : X.N.Nodup) (hi : X.N[i]? = some x) (hx : Loc X.env.scope x) (h2 : VGs X es is) (hf : X.fn x = true ∨ X.env.scope.names.lookup x = some .local := by first | exact .inl rfl | exact .inr rfl | assumption)
    (hs : (assignEach (.Name x pos :: es) X.env).map (·.2) = assign (.Name x pos) X.env :: (assignEach es X.env).map (·.2) := by rfl) : VGs X (.Name x pos :: es) (i :: is) := ⟨pgs_cons (pg_name hN hi hx hf) h2.ex hs⟩
theorem vg_tup {k : Nat} {is : List Nat} (hc : X.calm = true) (h : VGs X es is) (hn : (assignEach es X.env).length = is.length := by rfl) (hst : (assignEach es X.env).findIdx? (·.1) = none := by rfl) : VG X (.Tuple es k pos) (.tp is) := ⟨pg_tup hc h.ex hn hst⟩
/-- a, b = e -/
def sUnp (tg : Tg) (fe : VEnv → Rs RV) : VEnv → Out := fun env => (fe env).out env fun r => match r.toD with
  | some x => (match tgE tg x env with | some env' => .nx env' | none => .no)
  | none => .no
theorem vs_unp {tg : Expr} {g : Tg} (he : VE ca W X e fa) (hg : VG X tg g) (hs : swapsWithSole [tg] e pos.line X.env = pure false := by rfl) (hw : swappedStores [tg] e X.env = pure none := by rfl)
    (h1 : (assignEach [tg] X.env).map (·.2) = [assign tg X.env] := by rfl) : VS ca W X (.Assign [tg] e pos) (sUnp g fa) := by
  obtain ⟨t, pe, se⟩ := he
  refine ⟨_, ps_asg pe hg.ex hs hw h1, fun B F env σ H D st p => ?_⟩
  show t σ H fun x H1 => tgT X.K g x σ H1 D.nx
  refine outE se st p fun r F1 H1 v p1 gg q => ?_
  cases e1 : r.toD with
  | none => rw [e1] at p1; exact p1.elim
  | some x =>
    rw [e1] at p1
    obtain ⟨F2, g2, s2, q2⟩ := frz gg (Fz.of q e1)
    simp only at p1
    cases e2 : tgE g x env with
    | none => rw [e2] at p1; exact p1.elim
    | some env' => rw [e2] at p1; exact snd_tg (st.grow g2) q2 e2 fun vs st' => p1 F2 _ H1 s2 st'

/-! ### for -/
def loopF (tg : Tg) (f : VEnv → Out) : List PyData → VEnv → Out
  | [], env => .nx env
  | x :: xs, env => match tgE tg x env with
    | none => .no
    | some e1 => match f e1 with
      | .nx e => loopF tg f xs e
      | .ct e => loopF tg f xs e
      | .bk e => .nx e
      | o => o
def sFor (tg : Tg) (src : VEnv → Rs (List PyData)) (f : VEnv → Out) : VEnv → Out := fun env => (src env).out env fun xs => loopF tg f xs env
theorem drop_cons {α : Type} {xs : List α} {i : Nat} {x : α} (h : xs[i]? = some x) : xs.drop i = x :: xs.drop (i + 1) := by
  obtain ⟨h1, h2⟩ := List.getElem?_eq_some_iff.mp h
  rw [← h2]
  exact List.drop_eq_getElem_cons h1
theorem vs_for {tg iter : Expr} {body : List Stmt} {src : VEnv → Rs (List PyData)} {g : Tg} (hp : PassesOwn (model X.prog X.w) X.A X.env X.xe) (hc : X.calm = true) (hi : VI ca W X tg iter src) (hg : VG X tg g) (hb : VSs ca W X body f)
    (hs : ∀ x, foldedSetIterable iter X.env x = pure x := by intro _; rfl) : VS ca W X (.For tg iter body [] pos) (sFor g src f) := by
  obtain ⟨t, pi, si⟩ := hi
  obtain ⟨tb, pb, sb⟩ := hb
  refine ⟨_, ps_for hp hc pi hg.ex pb hs, fun B F env σ H D st p => ?_⟩
  refine si B F env σ H _ st ?_
  unfold sFor at p
  cases e : src env with
  | no => rw [e] at p; exact p
  | ex c fs => rw [e] at p; exact exOut st p
  | ok xs =>
    rw [e] at p
    intro J F1 H1 vs g1 d1 jw
    refine ⟨fun i m σ H => m = vs.length - i ∧ i ≤ vs.length ∧ ∃ F' env', Same F1 F' ∧ StOk X.K B F' env' σ H ∧ PostS X.K ca W B F' D (loopF g f (xs.drop i) env'), ⟨_, rfl, Nat.zero_le _, F1, env, Same.refl _, st.grow g1, PostS.mono g1.ff p⟩, ?_⟩
    rintro i m σ2 H2 ⟨rfl, hi, F2, env2, s2, st2, p2⟩
    have s3 : Same F1 H2 := s2.trans st2.cfg.sub
    by_cases hlt : i < vs.length
    · obtain ⟨x, hx, qx⟩ := DqA.get' d1 (List.getElem?_eq_getElem hlt)
      rw [drop_cons hx] at p2
      unfold loopF at p2
      refine .inr ⟨jw.go i H2 s3 hlt, fun σ' H' => ∃ F' env', Same F1 F' ∧ StOk X.K B F' env' σ' H' ∧ PostS X.K ca W B F' D (loopF g f (xs.drop (i + 1)) env'), fun σ' H' z => ⟨vs.length - (i + 1), by omega, rfl, hlt, z⟩, fun y H' hy => ?_⟩
      obtain ⟨rfl, e2⟩ := jw.yld i H2 y H' s3 hy hlt
      rw [List.getElem?_eq_getElem hlt] at e2
      cases e2
      cases e3 : tgE g x env2 with
      | none => rw [e3] at p2; exact p2.elim
      | some env3 =>
        rw [e3] at p2
        simp only at p2
        refine snd_tg st2 (qx.mono s2) e3 fun ws st3 => ?_
        refine sb B F2 env3 _ _ _ st3 ?_
        cases e4 : f env3 with
        | nx env' => rw [e4] at p2; exact fun F' σ' H' s st' => ⟨F', env', s2.trans s, st', PostS.mono s p2⟩
        | ct env' => rw [e4] at p2; exact fun F' σ' H' s st' => ⟨F', env', s2.trans s, st', PostS.mono s p2⟩
        | bk env' => rw [e4] at p2; exact p2
        | rt r => rw [e4] at p2; exact p2
        | ex c fs env' => rw [e4] at p2; exact p2
        | no => rw [e4] at p2; exact p2
    · have e5 : i = vs.length := by omega
      subst e5
      rw [List.drop_eq_nil_of_le (by rw [d1.length]; exact Nat.le_refl _)] at p2
      exact .inl ⟨jw.stop H2 s3, p2 F2 σ2 H2 (Same.refl _) st2⟩
end
end VL

namespace VL
open PySem PySem.Spec PyProof.Rows L2

/-- inside a comprehension nothing may be raised -/
abbrev W0 : WX := fun _ _ _ _ => False
section
variable {ca : Nat → Addr} {W : WX} {X : Cx} {a b e : Expr} {es : List Expr} {fa fb : VEnv → Rs RV} {pos : Pos} {st : Stmt} {rest : List Stmt} {f g : VEnv → Out}
/-! ## list comprehensions -/
def wipeE (env : VEnv) : List Nat → VEnv
  | [] => env
  | v :: vs => (wipeE env vs).set v none
theorem wipe_ok {K : PySem.W.Frag} {B : Base} {F H : Hp} {env : VEnv} {σ : L2.St} (st : StOk K B F env σ H) : ∀ vs : List Nat, StOk K B F (wipeE env vs) (wipe σ vs) H
  | [] => st
  | v :: vs => (wipe_ok st vs).drop v
theorem wipe_get {σ : L2.St} {i : Nat} {vs : List Nat} (h : i ∈ vs) : (wipe σ vs)[i]? = some none ∨ (wipe σ vs)[i]? = none := by
  cases e : (wipe σ vs)[i]? with
  | none => exact .inr rfl
  | some o =>
    cases o with
    | none => exact .inl rfl
    | some v => exact absurd h (wipe_some e).2
theorem wipe_all {σ σ' : L2.St} {vs : List Nat} (hl : σ'.length = σ.length) (h : ∀ i, i ∉ vs → σ'[i]? = σ[i]?) : wipe σ' vs = wipe σ vs := by
  apply List.ext_getElem?
  intro i
  by_cases hi : i ∈ vs
  · have l1 := wipe_length σ' vs
    have l2 := wipe_length σ vs
    rcases wipe_get (σ := σ') hi with h1 | h1 <;> rcases wipe_get (σ := σ) hi with h2 | h2
    · rw [h1, h2]
    · have a1 := (List.getElem?_eq_some_iff.mp h1).1
      have a2 := List.getElem?_eq_none_iff.mp h2
      omega
    · have a1 := (List.getElem?_eq_some_iff.mp h2).1
      have a2 := List.getElem?_eq_none_iff.mp h1
      omega
    · rw [h1, h2]
  · rw [wipe_out hi, wipe_out hi]
    exact h i hi
theorem wipe_wipe {σ : L2.St} (vs : List Nat) : wipe (wipe σ vs) vs = wipe σ vs := wipe_all (wipe_length σ vs) fun i hi => wipe_out hi
theorem setAll_len : ∀ (is : List Nat) (vs : List V) (σ : L2.St), (setAll is vs σ).length = σ.length
  | [], _, σ => by unfold setAll; rfl
  | i :: is, [], σ => by unfold setAll; rfl
  | i :: is, v :: vs, σ => by unfold setAll; rw [setAll_len is vs]; simp
theorem setAll_get : ∀ (is : List Nat) (vs : List V) (σ : L2.St) (j : Nat), j ∉ is → (setAll is vs σ)[j]? = σ[j]?
  | [], _, σ, j, _ => by unfold setAll; rfl
  | i :: is, [], σ, j, _ => by unfold setAll; rfl
  | i :: is, v :: vs, σ, j, h => by
    unfold setAll
    rw [setAll_get is vs _ j (fun z => h (List.mem_cons_of_mem _ z)), List.getElem?_set_ne (fun z => h (by subst z; exact List.mem_cons_self))]
theorem tgSt_wipe {tg : Tg} {v : V} {vs : List V} {σ : L2.St} {own : List Nat} (h : ∀ i ∈ tgIx tg, i ∈ own) : wipe (tgSt tg v vs (wipe σ own)) own = wipe σ own := by
  rw [← wipe_wipe (σ := σ) own]
  cases tg with
  | nm i =>
    rw [wipe_wipe]
    refine (wipe_all (σ' := (wipe σ own).set i (some v)) (σ := wipe σ own) (by simp) fun j hj => ?_).trans (wipe_wipe own)
    have hij : i ≠ j := fun z => by subst z; exact hj (h i (by simp [tgIx]))
    rw [List.getElem?_set_ne hij]
  | tp is =>
    rw [wipe_wipe]
    refine (wipe_all (σ' := setAll is vs (wipe σ own)) (σ := wipe σ own) (setAll_len is vs _) fun j hj => ?_).trans (wipe_wipe own)
    exact setAll_get is vs _ j fun z => hj (h j z)
/-- the ifs -/
structure VTs (ca : Nat → Addr) (W : WX) (X : Cx) (ifs : List Expr) (f : VEnv → Rs Bool) : Prop where
  ex : ∃ t, PTs X ifs t ∧ SndT X.K ca W t f
def bYes : VEnv → Rs Bool := fun _ => .ok true
theorem vts_nil : VTs ca W X [] bYes := ⟨_, pts_nil, fun _ _ _ _ _ _ st p => p _ _ (Grow.refl st.cfg)⟩
theorem vts_one {c : Expr} {t : VEnv → Rs Bool} (h : VT ca W X c t) : VTs ca W X [c] t := by
  obtain ⟨t, pe, se⟩ := h
  exact ⟨_, pts_one pe, se⟩
def lcF (tg : Tg) (t : VEnv → Rs Bool) (fe : VEnv → Rs RV) (env : VEnv) : List PyData → Rs (List PyData)
  | [] => .ok []
  | x :: xs => match tgE tg x env with
    | none => .no
    | some e1 => match t e1 with
      | .ok true => (match fe e1 with
        | .ok r => (match r.toD with
          | some d => (lcF tg t fe env xs).bind fun ds => .ok (d :: ds)
          | none => .no)
        | _ => .no)
      | .ok false => lcF tg t fe env xs
      | _ => .no
theorem lcF_ex {tg : Tg} {t : VEnv → Rs Bool} {fe : VEnv → Rs RV} {env : VEnv} {c : Nat} {fs : List (Str × PyData)} : ∀ xs : List PyData, lcF tg t fe env xs ≠ .ex c fs
  | [], h => by cases h
  | x :: xs, h => by
    have ih := lcF_ex (tg := tg) (t := t) (fe := fe) (env := env) (c := c) (fs := fs) xs
    unfold lcF at h
    split at h
    · cases h
    · split at h
      · split at h
        · split at h
          · cases e : lcF tg t fe env xs with
            | ok ds => rw [e] at h; cases h
            | ex c' fs' => rw [e] at h; simp at h; exact ih (by rw [e, h.1, h.2])
            | no => rw [e] at h; cases h
          · cases h
        · cases h
      · exact ih h
      · cases h
theorem lcF_len {tg : Tg} {t : VEnv → Rs Bool} {fe : VEnv → Rs RV} {env : VEnv} : ∀ (xs ds : List PyData), lcF tg t fe env xs = .ok ds → ds.length ≤ xs.length
  | [], ds, h => by cases h; simp
  | x :: xs, ds, h => by
    unfold lcF at h
    split at h
    · cases h
    · split at h
      · split at h
        · split at h
          · cases e : lcF tg t fe env xs with
            | ok es =>
              rw [e] at h
              have := lcF_len xs es e
              simp at h
              subst h
              simp
              exact this
            | ex c' fs' => rw [e] at h; cases h
            | no => rw [e] at h; cases h
          · cases h
        · cases h
      · have := lcF_len xs ds h
        simp; omega
      · cases h
def cLc (src : VEnv → Rs (List PyData)) (own : List Nat) (tg : Tg) (t : VEnv → Rs Bool) (fe : VEnv → Rs RV) : VEnv → Rs RV := fun env => (src env).bind fun xs => if xs.length ≤ 1000000 then (lcF tg t fe (wipeE env own) xs).bind fun ds => .ok (.ol ds) else .no
theorem million {n : Nat} (h : n ≤ 1000000) : n < sizeLine := Nat.lt_of_le_of_lt h (by decide)
theorem snd_lc {K : PySem.W.Frag} {wi : TI} {tt : TT} {te : TE} {src : VEnv → Rs (List PyData)} {own : List Nat} {tg : Tg} {t : VEnv → Rs Bool} {fe : VEnv → Rs RV} (ho : ∀ i ∈ tgIx tg, i ∈ own) (si : SndJ K ca W wi src) (s1 : SndT K ca W0 tt t) (s2 : SndE K ca W0 te fe) :
    SndE K ca W (tLc wi (tgT K tg) tt te own) (cLc src own tg t fe) := by
  intro B F env σ H Q st p
  refine si B F env σ H _ st ?_
  unfold cLc at p
  cases e : src env with
  | no => rw [e] at p; exact p
  | ex c fs => rw [e] at p; exact p
  | ok xs =>
    rw [e] at p
    simp only [Rs.bind_ok] at p
    split at p
    · rename_i hz
      cases e2 : lcF tg t fe (wipeE env own) xs with
      | no => rw [e2] at p; exact p.elim
      | ex c fs => exact absurd e2 (lcF_ex xs)
      | ok res =>
        rw [e2] at p
        intro J F1 H1 vs g1 d1 jw D nD
        have stw : StOk K B F1 (wipeE env own) (wipe σ own) H1 := wipe_ok (st.grow g1) own
        have fD : F1 D = none := same_none g1.cfg.sub nD
        refine ⟨fun i m H => m = vs.length - i ∧ i ≤ vs.length ∧ ∃ F' acc ds rs, Grow F1 H1 F' H ∧ F' D = none ∧ H D = some (.lst acc) ∧ DqA K F' acc ds ∧ lcF tg t fe (wipeE env own) (xs.drop i) = .ok rs ∧ ds ++ rs = res ∧ ds.length ≤ i,
          ⟨_, rfl, Nat.zero_le _, F1, [], [], res, Grow.newO g1.cfg _ nD (fun _ z => by cases z), fD, upd_same, .nil, e2, rfl, Nat.le_refl _⟩, ?_⟩
        rintro i m H2 ⟨rfl, hi, F2, acc, ds, rs, g2, f2, hD, q2, er, es, dl⟩
        by_cases hlt : i < vs.length
        · obtain ⟨x, hx, qx⟩ := DqA.get' d1 (List.getElem?_eq_getElem hlt)
          rw [drop_cons hx] at er
          unfold lcF at er
          refine .inr ⟨jw.go i H2 g2.hh hlt, fun H => i + 1 ≤ vs.length ∧ ∃ F' acc ds rs, Grow F1 H1 F' H ∧ F' D = none ∧ H D = some (.lst acc) ∧ DqA K F' acc ds ∧ lcF tg t fe (wipeE env own) (xs.drop (i + 1)) = .ok rs ∧ ds ++ rs = res ∧ ds.length ≤ i + 1,
            fun H' z => ⟨vs.length - (i + 1), by omega, rfl, z.1, z.2⟩, fun y H' hy => ?_⟩
          obtain ⟨rfl, e5⟩ := jw.yld i H2 y H' g2.hh hy hlt
          rw [List.getElem?_eq_getElem hlt] at e5
          cases e5
          cases e3 : tgE tg x (wipeE env own) with
          | none => rw [e3] at er; cases er
          | some env3 =>
            rw [e3] at er
            simp only at er
            refine snd_tg (stw.grow g2) (qx.mono g2.ff) e3 fun ws st3 => ⟨tgSt_wipe ho, ?_⟩
            refine s1 B F2 env3 _ _ _ st3 ?_
            cases e4 : t env3 with
            | no => rw [e4] at er; cases er
            | ex c fs => rw [e4] at er; cases er
            | ok b =>
              rw [e4] at er
              intro F4 H4 g4
              have f4 : F4 D = none := g4.stillFree f2 hD
              cases b with
              | false =>
                rw [if_neg Bool.false_ne_true]
                exact ⟨hlt, F4, acc, ds, rs, g2.trans g4, f4, g4.hh _ _ hD, DqA.mono g4.ff _ _ q2, er, es, by omega⟩
              | true =>
                rw [if_pos rfl]
                simp only at er
                refine s2 B F4 env3 _ H4 _ (st3.grow g4) ?_
                cases e6 : fe env3 with
                | no => rw [e6] at er; cases er
                | ex c fs => rw [e6] at er; cases er
                | ok r =>
                  rw [e6] at er
                  simp only at er
                  cases e7 : r.toD with
                  | none => rw [e7] at er; cases er
                  | some d =>
                    rw [e7] at er
                    simp only at er
                    cases e8 : lcF tg t fe (wipeE env own) (xs.drop (i + 1)) with
                    | no => rw [e8] at er; cases er
                    | ex c fs => rw [e8] at er; cases er
                    | ok rs' =>
                      rw [e8] at er
                      simp at er
                      intro F6 H6 v6 g6 q6
                      obtain ⟨F7, g7, s7, q7⟩ := frz g6 (Fz.of q6 e7)
                      have g8 : Grow F1 H1 F7 H6 := (g2.trans g4).trans g7
                      have h6 : H6 D = some (.lst acc) := g7.hh _ _ (g4.hh _ _ hD)
                      have f7 : F7 D = none := g7.stillFree f4 (g4.hh _ _ hD)
                      have qa : DqA K F7 acc ds := DqA.mono g7.ff _ _ (DqA.mono g4.ff _ _ q2)
                      have al : acc.length = ds.length := qa.length
                      refine ⟨acc, h6, million (by have := d1.length; omega), hlt, F7, acc ++ [v6], ds ++ [d], rs', g8.write nD f7 h6 (fun _ z => by cases z), f7, upd_same, qa.append (.cons q7 .nil), rfl, ?_, by simp; omega⟩
                      rw [← es, ← er]
                      simp
        · have e5 : i = vs.length := by omega
          subst e5
          rw [List.drop_eq_nil_of_le (by rw [d1.length]; exact Nat.le_refl _)] at er
          cases er
          rw [List.append_nil] at es
          subst es
          exact .inl ⟨jw.stop H2 g2.hh, p F2 H2 (.ref D) (g1.trans g2) ⟨D, acc, rfl, same_none g1.hh nD, f2, hD, q2⟩⟩
    · exact p.elim
/-- the one reading of a semantic function -/
def tU (K : PySem.W.Frag) (ca : Nat → Addr) (W : WX) (f : VEnv → Rs RV) : TE := fun σ H Q => ∃ B F env, StOk K B F env σ H ∧ PostE K ca W σ F H Q (f env)
def tUT (K : PySem.W.Frag) (ca : Nat → Addr) (W : WX) (f : VEnv → Rs Bool) : TT := fun σ H Q => ∃ B F env, StOk K B F env σ H ∧ PostB K ca W σ F H Q (f env)
theorem VE.pe {f : VEnv → Rs RV} (h : VE ca W X e f) : PE X e (tU X.K ca W f) := by
  obtain ⟨t, p, s⟩ := h
  exact ⟨fun pins s0 σ H Q I ⟨B, F, env, st, q⟩ => p.run pins s0 σ H Q I (s B F env σ H Q st q)⟩
theorem VTs.pt {ifs : List Expr} {f : VEnv → Rs Bool} (h : VTs ca W X ifs f) : PTs X ifs (tUT X.K ca W f) := by
  obtain ⟨t, p, s⟩ := h
  exact ⟨fun pins s0 σ H Q I ⟨B, F, env, st, q⟩ => p.run pins s0 σ H Q I (s B F env σ H Q st q)⟩
theorem ve_lc {elt tg iter : Expr} {ifs : List Expr} {scope : Scope} {own : List (Str × Nat)} {src : VEnv → Rs (List PyData)} {g : Tg} {t : VEnv → Rs Bool} {fe : VEnv → Rs RV} (hc : X.calm = true) (hN : X.N.Nodup) (hi : VJ ca W X tg iter src) (ok : BlkOk X.N X.env.scope scope own) (ho : ∀ i ∈ tgIx g, i ∈ own.map (·.2))
    (hg : ∀ (s : Shared) (H : Hp) (C : Addr) (cl : List (Str × Addr)) (fp : List Addr), VG (X.blk s H scope (compEnvC scope cl C X.env) fp) tg g) (ht : ∀ (s : Shared) (H : Hp) (C : Addr) (cl : List (Str × Addr)) (fp : List Addr), VTs ca W0 (X.blk s H scope (compEnvC scope cl C X.env) fp) ifs t)
    (he : ∀ (s : Shared) (H : Hp) (C : Addr) (cl : List (Str × Addr)) (fp : List Addr), VE ca W0 (X.blk s H scope (compEnvC scope cl C X.env) fp) elt fe) (hs : ∀ x, foldedSetIterable iter X.env x = pure x := by intro _; rfl) :
    VE ca W X (.ListComp elt [⟨tg, iter, ifs, 0⟩] scope pos) (cLc src (own.map (·.2)) g t fe) := by
  obtain ⟨wi, pi, si⟩ := hi
  exact ⟨_, pe_lc hc hN pi ok (fun s H C cl fp => (show PG _ tg (tgT X.K g) from (hg s H C cl fp).ex)) (fun s H C cl fp => (show PTs _ ifs (tUT X.K ca W0 t) from (ht s H C cl fp).pt)) (fun s H C cl fp => (show PE _ elt (tU X.K ca W0 fe) from (he s H C cl fp).pe)) hs,
    snd_lc ho si (fun B F env σ H Q st q => ⟨B, F, env, st, q⟩ : SndT X.K ca W0 (tUT X.K ca W0 t) t) (fun B F env σ H Q st q => ⟨B, F, env, st, q⟩ : SndE X.K ca W0 (tU X.K ca W0 fe) fe)⟩
/-- y = [..] on one line -/
theorem vs_setLc {i : Nat} {y : Str} {py : Pos} {elt tg iter : Expr} {ifs : List Expr} {scope : Scope} {own : List (Str × Nat)} {spos : Pos} {src : VEnv → Rs (List PyData)} {g : Tg} {t : VEnv → Rs Bool} {fe : VEnv → Rs RV} (hc : X.calm = true) (hN : X.N.Nodup) (hy : X.N[i]? = some y) (hyl : X.env.scope.names.lookup y = some .local)
    (hsw : swapsWith (.ListComp elt [⟨tg, iter, ifs, 0⟩] scope pos) (some (.Name y py)) spos.line X.env = pure true) (hi : VJ ca W X tg iter src) (ok : BlkOk X.N X.env.scope scope own) (ho : ∀ i ∈ tgIx g, i ∈ own.map (·.2))
    (hg : ∀ (s : Shared) (H : Hp) (C : Addr) (cl : List (Str × Addr)) (fp : List Addr), VG (X.blk s H scope (compEnvC scope cl C X.env) fp) tg g) (ht : ∀ (s : Shared) (H : Hp) (C : Addr) (cl : List (Str × Addr)) (fp : List Addr), VTs ca W0 (X.blk s H scope (compEnvC scope cl C X.env) fp) ifs t)
    (he : ∀ (s : Shared) (H : Hp) (C : Addr) (cl : List (Str × Addr)) (fp : List Addr), VE ca W0 (X.blk s H scope (compEnvC scope cl C X.env) fp) elt fe) (hs : ∀ x, foldedSetIterable iter X.env x = pure x := by intro _; rfl) :
    VS ca W X (.Assign [.Name y py] (.ListComp elt [⟨tg, iter, ifs, 0⟩] scope pos) spos) (sSet i (cLc src (own.map (·.2)) g t fe)) := by
  obtain ⟨wi, pi, si⟩ := hi
  refine ⟨_, ps_setLc hc hN hy hyl hsw pi ok (fun s H C cl fp => (show PG _ tg (tgT X.K g) from (hg s H C cl fp).ex)) (fun s H C cl fp => (show PTs _ ifs (tUT X.K ca W0 t) from (ht s H C cl fp).pt)) (fun s H C cl fp => (show PE _ elt (tU X.K ca W0 fe) from (he s H C cl fp).pe)) hs, fun B F env σ H D st p => ?_⟩
  have se := snd_lc (own := own.map (·.2)) (W := W) ho si (fun B F env σ H Q st q => ⟨B, F, env, st, q⟩ : SndT X.K ca W0 (tUT X.K ca W0 t) t) (fun B F env σ H Q st q => ⟨B, F, env, st, q⟩ : SndE X.K ca W0 (tU X.K ca W0 fe) fe)
  show tLc wi (tgT X.K g) (tUT X.K ca W0 t) (tU X.K ca W0 fe) (own.map (·.2)) σ H fun x H1 => D.nx (σ.set i (some x)) H1
  exact outE se st p fun r F1 H1 v p1 g q => snd_put st g q p1

/-! ## defs -/
/-- what is handed to a def -/
def RV.arg : RV → RV
  | .ol xs => .d (.list xs)
  | .od xs => .bd xs
  | .ot xs => .bt xs
  | r => r
theorem arg1 {K : PySem.W.Frag} {F0 H0 F H F1 : Hp} {v : V} {r : RV} (g1 : Grow F0 H0 F1 H) (s1 : Same F F1) (h1 : RVok K H0 F H v r) : ∃ F', Grow F0 H0 F' H ∧ Same F1 F' ∧ RVok K H F' H v r.arg := by
  cases r with
  | d x => exact ⟨F1, g1, Same.refl _, Dq.mono s1 x v h1⟩
  | ol xs =>
    obtain ⟨F2, g2, s2, q2⟩ := frz g1 ((Fz.of h1 (d := .list xs) rfl).mono s1)
    exact ⟨F2, g2, s2, q2⟩
  | bl xs => obtain ⟨p, ws, e1, hp, q⟩ := h1; exact ⟨F1, g1, Same.refl _, p, ws, e1, hp, DqA.mono s1 _ _ q⟩
  | od xs => obtain ⟨p, ws, e1, _, _, hp, q⟩ := h1; exact ⟨F1, g1, Same.refl _, p, ws, e1, .inl hp, q.mono s1⟩
  | bd xs => obtain ⟨p, ws, e1, hp, q⟩ := h1; exact ⟨F1, g1, Same.refl _, p, ws, e1, hp, q.mono s1⟩
  | ot xs => obtain ⟨p, ws, e1, _, _, hp, q⟩ := h1; exact ⟨F1, g1, Same.refl _, p, ws, e1, hp, q.mono s1⟩
  | bt xs => obtain ⟨p, ws, e1, hp, q⟩ := h1; exact ⟨F1, g1, Same.refl _, p, ws, e1, hp, q.mono s1⟩
  | sc ns => obtain ⟨a, e1, q⟩ := h1; exact ⟨F1, g1, Same.refl _, a, e1, s1.seq q⟩
  | xo a dd c fs => obtain ⟨e1, xs, hp, q⟩ := h1; exact ⟨F1, g1, Same.refl _, e1, xs, hp, q.mono s1⟩
  | t3 x ys kvs => exact ⟨F1, g1, Same.refl _, t3_mono s1 h1⟩
  | fd kvs => exact ⟨F1, g1, Same.refl _, fd_mono s1 h1⟩
theorem arg_own (r : RV) : r.arg.own = false := by cases r <;> rfl
theorem arg_mono {K : PySem.W.Frag} {H F F' : Hp} (s : Same F F') {v : V} {r : RV} (ho : r.own = false) (h : RVok K H F H v r) : RVok K H F' H v r := by
  cases r with
  | d x => exact Dq.mono s x v h
  | bl xs => obtain ⟨p, ws, e1, hp, q⟩ := h; exact ⟨p, ws, e1, hp, DqA.mono s _ _ q⟩
  | bd xs => obtain ⟨p, ws, e1, hp, q⟩ := h; exact ⟨p, ws, e1, hp, q.mono s⟩
  | bt xs => obtain ⟨p, ws, e1, hp, q⟩ := h; exact ⟨p, ws, e1, hp, q.mono s⟩
  | sc ns => obtain ⟨a, e1, q⟩ := h; exact ⟨a, e1, s.seq q⟩
  | xo a dd c fs => obtain ⟨e1, xs, hp, q⟩ := h; exact ⟨e1, xs, hp, q.mono s⟩
  | t3 x ys kvs => exact t3_mono s h
  | fd kvs => exact fd_mono s h
  | _ => cases ho
theorem args_go {K : PySem.W.Frag} {F0 H0 F H : Hp} : ∀ {vs : List V} {rs : List RV} {F1 : Hp}, Grow F0 H0 F1 H → Same F F1 → Paired (fun v r => RVok K H0 F H v r) vs rs →
    ∃ F', Grow F0 H0 F' H ∧ Same F1 F' ∧ Paired (fun v r => RVok K H F' H v r) vs (rs.map RV.arg)
  | _, _, F1, g, s, .nil => ⟨F1, g, Same.refl _, .nil⟩
  | _, _, F1, g, s, .cons (b := r) h1 h2 => by
    obtain ⟨F2, g2, s2, q2⟩ := arg1 g s h1
    obtain ⟨F3, g3, s3, q3⟩ := args_go g2 (s.trans s2) h2
    exact ⟨F3, g3, s2.trans s3, .cons (arg_mono s3 (arg_own r) q2) q3⟩
/-- a def's promise -/
def PostF (K : PySem.W.Frag) (ca : Nat → Addr) (G H : Hp) (Q : VK) (E : XK) : Rs RV → Prop
  | .ok r => ∀ G' H' v, Grow G H G' H' → RVok K H G' H' v r → Q v H'
  | .ex c fs => ∀ G' H' cls dx, Grow G H G' H' → ExOk K ca G' H' cls dx c fs → E cls dx H'
  | .no => False
def spV (K : PySem.W.Frag) (ca : Nat → Addr) (n : Nat) (F : List RV → Rs RV) : Sp := fun vs H Q E => vs.length = n ∧ ∃ G rs, Cfg G H ∧ Paired (fun v r => RVok K H G H v r) vs rs ∧ PostF K ca G H Q E (F rs)
/-- the semantic function of a def out of that of its body; n: its slots -/
def Out.fin : Out → Rs RV
  | .nx _ => .ok (.d .none)
  | .rt r => .ok r
  | .ex c fs _ => .ex c fs
  | _ => .no
def fnD (n : Nat) (body : VEnv → Out) : List RV → Rs RV := fun rs => (body (rs.map some ++ List.replicate (n - rs.length) none)).fin
theorem start_ok {K : PySem.W.Frag} {G H : Hp} {vs : List V} {rs : List RV} (N : List Str) (c : Cfg G H) (h : Paired (fun v r => RVok K H G H v r) vs rs) : StOk K ⟨G, H⟩ G (rs.map some ++ List.replicate (N.length - rs.length) none) (start N vs) H := by
  have hl : vs.length = rs.length := Paired.length h
  have get : ∀ (i : Nat) (r : RV), (rs.map some ++ List.replicate (N.length - rs.length) none)[i]? = some (some r) → ∃ v, (start N vs)[i]? = some (some v) ∧ RVok K H G H v r := by
    intro i r e
    by_cases hi : i < rs.length
    · rw [List.getElem?_append_left (by simpa using hi), List.getElem?_map] at e
      have e1 : rs[i]? = some r := by
        cases z : rs[i]? with
        | none => rw [z] at e; cases e
        | some y => rw [z] at e; cases e; rfl
      have go : ∀ {vs : List V} {rs : List RV} {i : Nat}, Paired (fun v r => RVok K H G H v r) vs rs → rs[i]? = some r → ∃ v, vs[i]? = some v ∧ RVok K H G H v r := by
        intro vs rs i h
        induction h generalizing i with
        | nil => intro e; simp at e
        | cons h1 h2 ih => intro e; cases i with
          | zero => simp at e; subst e; exact ⟨_, rfl, h1⟩
          | succ i => obtain ⟨v, q1, q2⟩ := ih (i := i) (by simpa using e); exact ⟨v, by simpa using q1, q2⟩
      obtain ⟨v, q1, q2⟩ := go h e1
      refine ⟨v, ?_, q2⟩
      unfold L2.start
      rw [List.getElem?_append_left (by simpa using (by omega : i < vs.length)), List.getElem?_map, q1]
      rfl
    · rw [List.getElem?_append_right (by simpa using Nat.le_of_not_lt hi), List.getElem?_replicate] at e
      split at e
      · cases e
      · cases e
  have noOwn : ∀ (i : Nat) (r : RV), (rs.map some ++ List.replicate (N.length - rs.length) none)[i]? = some (some r) → r.own = true → False := by
    intro i r e o
    obtain ⟨v, _, q⟩ := get i r e
    cases r with
    | ol xs => obtain ⟨p, ws, _, n, _, hp, _⟩ := q; rw [n] at hp; cases hp
    | od xs => obtain ⟨p, ws, _, n, _, hp, _⟩ := q; rw [n] at hp; cases hp
    | ot xs => obtain ⟨p, ws, _, n, _, hp, _⟩ := q; rw [n] at hp; cases hp
    | _ => cases o
  refine ⟨Grow.refl c, ?_, get, fun i r p e o z => ?_, fun i j r r' p _ e _ o _ _ => (noOwn i r e o).elim⟩
  rotate_left
  · obtain ⟨v, e1, q⟩ := get i r e
    rw [z] at e1
    cases e1
    cases r with
    | bl xs => obtain ⟨a, ws, e2, hp, _⟩ := q; cases e2; exact ⟨_, hp⟩
    | bd xs =>
      obtain ⟨a, ws, e2, hp, _⟩ := q
      cases e2
      rcases hp with hp | ⟨o, hp⟩
      · exact ⟨_, hp⟩
      · exact ⟨_, hp⟩
    | bt xs => obtain ⟨a, ws, e2, hp, _⟩ := q; cases e2; exact ⟨_, hp⟩
    | _ => cases o
  unfold L2.start
  simp [hl]
theorem fn_ok {P : Program} {w : World} {K : PySem.W.Frag} {mg : Str → Option Value} {base : Heap} {x qual : Str} {sd : Stmt} {fA : Addr} {fd : FuncData} {N ps : List Str} {k : Nat} {body : VEnv → Out} (F : Fun K x qual sd fA fd) (S : FnScope N ps (defScope sd))
    (hb : ∀ (cdv : Value) (A : Around) (outer : List PySem.Env) (s : Shared) (H : Hp) (E : XK), Room k (A.deeper (envOfC qual (defScope sd) s.heap.objs.size fA cdv)) → Takes (cxOf (L2.CX P w) P w K mg base N qual (defScope sd) fA cdv A outer s H E) (fun cls dx _ H' => E cls dx H') →
      PassesOwn (model P w) (A.deeper (envOfC qual (defScope sd) s.heap.objs.size fA cdv)) (envOfC qual (defScope sd) s.heap.objs.size fA cdv) (cxOf (L2.CX P w) P w K mg base N qual (defScope sd) fA cdv A outer s H E).xe →
      VSs ca (fun cls dx _ H' => E cls dx H') (cxOf (L2.CX P w) P w K mg base N qual (defScope sd) fA cdv A outer s H E) (defBody sd) body) : FnOk P w K mg base (L2.CX P w) (k + 1) fA fd ps (spV K ca ps.length (fnD N.length body)) := by
  refine F.okX S (fun vs H Q E h => h.1) (fun cdv A outer s H vs Q E hr h => ?_)
  obtain ⟨hl, G, rs, c, pr, q⟩ := h
  obtain ⟨t, p, sn⟩ := hb cdv A outer s H E hr (takes_of rfl rfl rfl rfl) (passes_of rfl)
  refine ⟨t, p, sn ⟨G, H⟩ G _ _ H _ (start_ok N c pr) ?_⟩
  unfold fnD at q
  generalize hB : body (rs.map some ++ List.replicate (N.length - rs.length) none) = o at q ⊢
  cases o with
  | nx env => exact fun F' σ' H' s st => q F' H' .non st.gr .non
  | rt r => exact fun F' H' v g r => q F' H' v g r
  | ex c fs env => exact fun F' σ' H' cls dx s st x => q F' H' cls dx st.gr x
  | bk env => exact q.elim
  | ct env => exact q.elim
  | no => exact q.elim
/-- f(e, ..) -/
theorem ve_call {fA : Addr} {fd : FuncData} {ps : List Str} {x : Str} {p : Pos} {k n : Nat} {G : List RV → Rs RV} {f : VEnv → Rs (List RV)} (Fo : FnOk X.prog X.w X.K X.mg X.base (L2.CX X.prog X.w) k fA fd ps (spV X.K ca n G)) (hr : Room k X.A) (hg : Gl X x) (hm : X.mg x = some (.ref fA)) (hk : PySem.W.keepIn X.K (.ref fA) = true) (hb : Binds X.K fd ps []) (tk : Takes X W)
    (ha : VA ca W X (e :: es) f) (hn : (e :: es).length = n := by rfl) (hdb : (x == ("__debug__" : Str)) = false := by decide) (he : starEach (e :: es) X.env = (false, eval e X.env) :: starEach es X.env := by rfl) (hpl : (backTo pos (starEach es X.env)).any (·.1) = false := by rfl) :
    VE ca W X (.Call (.Name x p) (e :: es) [] pos) (cA (fun rs => if rs.length = n then G (rs.map RV.arg) else .no) f) := by
  obtain ⟨t, pa, sa⟩ := ha
  refine ⟨_, pe_callSD Fo hr hg hm hk hb .nil (fun σ => passAt tk σ) pa hdb he hpl, fun B F env σ H Q st q => ?_⟩
  show t σ H fun vs H1 => spV X.K ca n G (vs ++ []) H1 Q (WE W σ)
  refine seqA (PostE X.K ca W σ F H Q) sa st q (fun _ _ h => h) (fun h => h) fun rs F1 H1 vs p1 g1 q1 => ?_
  rw [List.append_nil]
  split at p1
  · rename_i hl
    obtain ⟨F2, g2, s2, q2⟩ := args_go g1 (Same.refl _) q1
    refine ⟨by rw [Paired.length q1, hl], F2, _, g2.cfg, q2, ?_⟩
    cases e1 : G (rs.map RV.arg) with
    | ok r => rw [e1] at p1; exact fun G' H' v gg rr => p1 G' H' v (g2.trans gg) (rr.older g2.hh)
    | ex c fs => rw [e1] at p1; exact fun G' H' cls dx gg x => p1 G' H' cls dx (g2.trans gg) x
    | no => rw [e1] at p1; exact p1
  · exact p1.elim
end
end VL

namespace VL
open PySem PySem.Spec PyProof.Rows L2

/-! ## reading values -/
def RV.lv : RV → Option (List PyData)
  | .d (.list xs) => some xs
  | .ol xs => some xs
  | .bl xs => some xs
  | _ => none
def RV.qv : RV → Option (List PyData)
  | .sc ns => some (ns.map .int)
  | r => r.lv
def RV.tv : RV → Option (List PyData)
  | .d (.tuple xs) => some xs
  | _ => none
def RV.data : RV → Option PyData
  | .d x => some x
  | .ol xs => some (.list xs)
  | .bl xs => some (.list xs)
  | .sc ns => some (.list (ns.map .int))
  | _ => none
section
variable {K : PySem.W.Frag} {ca : Nat → Addr} {H0 F H : Hp} {v : V} {r : RV} {xs : List PyData}
theorem lv_ok (s : Same F H) (h : RVok K H0 F H v r) (e : r.lv = some xs) : ∃ p vs, v = .ref p ∧ H p = some (.lst vs) ∧ DqA K F vs xs := by
  cases r with
  | d x =>
    cases x with
    | list ys => cases e; cases h with
      | lst h1 h2 => exact ⟨_, _, rfl, s _ _ h1, h2⟩
    | _ => cases e
  | ol ys => cases e; obtain ⟨p, vs, e1, _, _, hp, q⟩ := h; exact ⟨p, vs, e1, hp, q⟩
  | bl ys => cases e; obtain ⟨p, vs, e1, hp, q⟩ := h; exact ⟨p, vs, e1, hp, q⟩
  | _ => cases e
theorem qv_ok (s : Same F H) (h : RVok K H0 F H v r) (e : r.qv = some xs) : ∃ p vs, v = .ref p ∧ SqL K H p vs ∧ DqA K F vs xs := by
  cases r with
  | sc ns => cases e; obtain ⟨a, e1, q⟩ := h; exact ⟨a, _, e1, s.seq q, DqA.of_ints ns⟩
  | d x => obtain ⟨p, vs, e1, hp, q⟩ := lv_ok s h e; exact ⟨p, vs, e1, SqL.of hp, q⟩
  | ol x => obtain ⟨p, vs, e1, hp, q⟩ := lv_ok s h e; exact ⟨p, vs, e1, SqL.of hp, q⟩
  | bl x => obtain ⟨p, vs, e1, hp, q⟩ := lv_ok s h e; exact ⟨p, vs, e1, SqL.of hp, q⟩
  | _ => cases e
theorem tv_ok (s : Same F H) (h : RVok K H0 F H v r) (e : r.tv = some xs) : ∃ p vs, v = .ref p ∧ SqT K H p vs ∧ SqN K F p vs ∧ DqA K F vs xs := by
  cases r with
  | d x =>
    cases x with
    | tuple ys => cases e; cases h with
      | tup h1 h2 => exact ⟨_, _, rfl, same_seqT s h1.1, h1, h2⟩
    | _ => cases e
  | _ => cases e
theorem data_ok {x : PyData} (s : Same F H) (h : RVok K H0 F H v r) (e : r.data = some x) : Dp K H v x := by
  cases r with
  | d y => cases e; exact Dq.dp x v (Dq.mono s x v h)
  | ol ys => cases e; obtain ⟨p, vs, e1, _, _, hp, q⟩ := h; subst e1; exact .lst (SqL.of hp) (DqA.dp _ _ (DqA.mono s _ _ q))
  | bl ys => cases e; obtain ⟨p, vs, e1, hp, q⟩ := h; subst e1; exact .lst (SqL.of hp) (DqA.dp _ _ (DqA.mono s _ _ q))
  | sc ns => cases e; obtain ⟨a, e1, q⟩ := h; subst e1; exact .lst (s.seq q) (DqA.dp _ _ (DqA.of_ints (F := H) ns))
  | _ => cases e
theorem atI_dq {vs : List V} {i : Int} {d : PyData} (h : DqA K F vs xs) (e : atI xs i = some d) : ∃ w, atI vs i = some w ∧ Dq K F w d := by
  unfold atI at e ⊢
  rw [h.length]
  cases z : ixN xs.length i with
  | none => rw [z] at e; cases e
  | some j => rw [z] at e; exact h.get e
instance dCMul (i j : Int) : Decidable (CMul i j) := inferInstanceAs (Decidable ((-(2 ^ 64) < i ∧ i < 2 ^ 64) ∨ (-(2 ^ 64) < j ∧ j < 2 ^ 64)))
instance dCDiv (i j : Int) : Decidable (CDiv i j) := inferInstanceAs (Decidable (0 < j ∧ j < 1073741824))
instance dCPow (i j : Int) : Decidable (CPow i j) := inferInstanceAs (Decidable (0 ≤ j ∧ j ≤ 1000000 ∧ i.natAbs < 2 ^ 64))
/-! ### numbers -/
def RV.i2 (f : Int → Int → Rs RV) : RV → RV → Rs RV
  | .d (.int i), .d (.int j) => f i j
  | _, _ => .no
def okI (i : Int) : Rs RV := .ok (.d (.int i))
def okB (b : Bool) : Rs RV := .ok (.d (.bool b))
theorem snd_i2 {C : Int → Int → Prop} [∀ i j, Decidable (C i j)] {g : Int → Int → Int} : Op2S K ca (rI C fun i j => .int (g i j)) (RV.i2 fun i j => if C i j then okI (g i j) else .no) := by
  intro W σ F0 H0 F H v1 v2 a b Q gr h1 h2 p
  cases a with
  | d x => cases b with
    | d y => cases x with
      | int i => cases y with
        | int j =>
          cases h1; cases h2
          simp only [RV.i2] at p
          split at p
          · rename_i c; exact ⟨i, j, rfl, rfl, c, p F H _ gr (.int _)⟩
          · exact p.elim
        | _ => exact p.elim
      | _ => exact p.elim
    | _ => cases x <;> exact p.elim
  | _ => exact p.elim
theorem snd_i20 {g : Int → Int → V} {g' : Int → Int → PyData} (hg : ∀ (F : Hp) i j, Dq K F (g i j) (g' i j)) : Op2S K ca (rI0 g) (RV.i2 fun i j => .ok (.d (g' i j))) := by
  intro W σ F0 H0 F H v1 v2 a b Q gr h1 h2 p
  cases a with
  | d x => cases b with
    | d y => cases x with
      | int i => cases y with
        | int j => cases h1; cases h2; exact ⟨i, j, rfl, rfl, p F H _ gr (hg _ _ _)⟩
        | _ => exact p.elim
      | _ => exact p.elim
    | _ => cases x <;> exact p.elim
  | _ => exact p.elim
def gSub := RV.i2 fun i j => okI (i - j)
def gMul := RV.i2 fun i j => if i.natAbs < 18446744073709551616 ∨ j.natAbs < 18446744073709551616 then okI (i * j) else .no
def gMod := RV.i2 fun i j => if 0 < j then okI (i % j) else .no
def gDiv := RV.i2 fun i j => if 0 < j ∧ j.natAbs < 1073741824 then okI (i / j) else .no
def gPow := RV.i2 fun i j => if 0 ≤ j ∧ j ≤ 1000000 ∧ i.natAbs < 2 ^ 64 then okI (i ^ j.toNat) else .no
def gLt := RV.i2 fun i j => okB (decide (i < j))
def gLe := RV.i2 fun i j => okB (decide (i ≤ j))
def gGt := RV.i2 fun i j => okB (decide (j < i))
def gGe := RV.i2 fun i j => okB (decide (j ≤ i))
theorem s_sub : Op2S K ca (rI0 fun i j => .int (i - j)) gSub := snd_i20 fun _ _ _ => .int _
theorem rI_weak {C C' : Int → Int → Prop} {g : Int → Int → V} {G : RV → RV → Rs RV} (h : ∀ i j, C i j → C' i j) (s : Op2S K ca (rI C g) G) : Op2S K ca (rI C' g) G := by
  intro W σ F0 H0 F H v1 v2 a b Q gr h1 h2 p
  obtain ⟨i, j, e1, e2, c, q⟩ := s W σ F0 H0 F H v1 v2 a b Q gr h1 h2 p
  exact ⟨i, j, e1, e2, h i j c, q⟩
theorem s_div : Op2S K ca (rI CDiv fun i j => .int (i / j)) gDiv :=
  rI_weak (C := fun i j => 0 < j ∧ j.natAbs < 1073741824) (fun i j h => by unfold CDiv; omega) snd_i2
theorem s_mul : Op2S K ca (rI CMul fun i j => .int (i * j)) gMul :=
  rI_weak (C := fun i j => i.natAbs < 18446744073709551616 ∨ j.natAbs < 18446744073709551616) (fun i j h => by unfold CMul; omega) snd_i2
theorem s_mod : Op2S K ca (rI (fun _ j => 0 < j) fun i j => .int (i % j)) gMod := snd_i2
theorem s_pow : Op2S K ca (rI CPow fun i j => .int (i ^ j.toNat)) gPow := by
  exact snd_i2 (C := CPow)
theorem s_lt : Op2S K ca (rI0 fun i j => .bl (decide (i < j))) gLt := snd_i20 fun _ _ _ => .bl _
theorem s_le : Op2S K ca (rI0 fun i j => .bl (decide (i ≤ j))) gLe := snd_i20 fun _ _ _ => .bl _
theorem s_gt : Op2S K ca (rI0 fun i j => .bl (decide (j < i))) gGt := snd_i20 fun _ _ _ => .bl _
theorem s_ge : Op2S K ca (rI0 fun i j => .bl (decide (j ≤ i))) gGe := snd_i20 fun _ _ _ => .bl _
def gNeg : RV → Rs RV
  | .d (.int i) => okI (-i)
  | _ => .no
theorem s_neg : Op1S K ca (rU fun i => .int (-i)) gNeg := by
  intro W σ F0 H0 F H v a Q gr h p
  cases a with
  | d x => cases x with
    | int i => cases h; exact ⟨i, rfl, p F H _ gr (.int _)⟩
    | _ => exact p.elim
  | _ => exact p.elim
/-! ### + -/
def rOr (r r' : R2) : R2 := fun x y H Q => r x y H Q ∨ r' x y H Q
theorem op_or' {X : Cx} {f : Value → Value → Sem Value} {r r' : R2} (h : OpR X f r) (h' : OpR X f r') : OpR X f (rOr r r') := by
  intro pins s σ H x y v u Q I rx ry q
  rcases q with q | q
  · exact h pins s σ H x y v u Q I rx ry q
  · exact h' pins s σ H x y v u Q I rx ry q
abbrev rStr : R2 := fun x y H Q => ∃ i j, x = .str i ∧ y = .str j ∧ i.length + j.length ≤ sizeLine ∧ Q (.str (i ++ j)) H
/-- t + u, what comes known to have no dict -/
def rCatN (K : PySem.W.Frag) : R2 := fun x y H Q => ∃ a b xs ys, x = .ref a ∧ y = .ref b ∧ SqT K H a xs ∧ SqT K H b ys ∧ xs.length + ys.length ≤ sizeLine ∧
  (xs = [] → Q (.ref b) H) ∧ (xs ≠ [] → ys = [] → Q (.ref a) H) ∧ (xs ≠ [] → ys ≠ [] → ∀ (o : Obj) p, o.dict = none → H p = none → Q (.ref p) (upd H p (.frz o (.tup (xs ++ ys)))))
theorem op_catN {X : Cx} : OpR X (binaryOp .Add) (rCatN X.K) := by
  intro pins s σ H x y v u Q I rx ry h
  obtain ⟨a, b, xs, ys, rfl, rfl, ha, hb, hz, k0, k1, k2⟩ := h
  cases rx
  cases ry
  obtain ⟨is1, r1, t1, _⟩ := I.tuple ha
  obtain ⟨is2, r2, t2, _⟩ := I.tuple hb
  by_cases hx : xs = []
  · subst hx
    cases r1
    exact cat_tup0 t1 t2 ⟨.ref b, H, I, rfl, k0 rfl⟩
  · refine HT.cat_tup t1 t2 (fun z => hx (r1.nil_iff.mp z)) (fun z => ⟨.ref a, H, I, rfl, k1 hx (r2.nil_iff.mp z)⟩) (fun z => ?_) (by rw [← r1.length, ← r2.length]; exact hz)
    have nn : H s.heap.objs.size = none := I.hok.fresh (Nat.le_refl _)
    refine ⟨.ref s.heap.objs.size, _, I.laid (t' := s.toks) (o := .frz _ (.tup (xs ++ ys))) (fun _ _ q => Heap.get?_push_of_some _ q) (Nat.le_refl _) ⟨Heap.get?_push_size _ rfl, ?_⟩, rfl, k2 hx (fun w => z (r2.nil_iff.mpr w)) _ _ rfl nn⟩
    exact ⟨by rw [List.length_append]; exact hz, _, r1.append r2, _, Heap.get?_push_size _ rfl, rfl, _, rfl⟩
def rAddA (K : PySem.W.Frag) : R2 := rOr (rI0 fun i j => .int (i + j)) (rOr rStr (rOr rCat (rCatN K)))
theorem op_addA {X : Cx} : OpR X (binaryOp .Add) (rAddA X.K) := op_or' op_add (op_or' op_add_str (op_or' op_cat op_catN))
def gAdd (a b : RV) : Rs RV := match a, b with
  | .d (.int i), .d (.int j) => okI (i + j)
  | .d (.str x), .d (.str y) => if x.length + y.length ≤ 1000000 then .ok (.d (.str (x ++ y))) else .no
  | .d (.tuple xs), .d (.tuple ys) => if xs.length + ys.length ≤ 1000000 then .ok (.d (.tuple (xs ++ ys))) else .no
  | a, b => match a.lv, b.lv with
    | some xs, some ys => if xs.length + ys.length ≤ 1000000 then .ok (.ol (xs ++ ys)) else .no
    | _, _ => .no
theorem gAdd_lv {xs ys : List PyData} {a b : RV} (e1 : a.lv = some xs) (e2 : b.lv = some ys) : gAdd a b = if xs.length + ys.length ≤ 1000000 then .ok (.ol (xs ++ ys)) else .no := by
  unfold gAdd
  split
  · cases e1
  · cases e1
  · cases e1
  · rw [e1, e2]
theorem s_add : Op2S K ca (rAddA K) gAdd := by
  intro W σ F0 H0 F H v1 v2 a b Q gr h1 h2 p
  unfold gAdd at p
  split at p
  · cases h1; cases h2; exact .inl ⟨_, _, rfl, rfl, p F H _ gr (.int _)⟩
  · cases h1; cases h2
    split at p
    · rename_i hz
      exact .inr (.inl ⟨_, _, rfl, rfl, Nat.le_of_lt (million hz), p F H _ gr (.str _)⟩)
    · exact p.elim
  · split at p
    · rename_i xs ys hz
      obtain ⟨p1, vs, rfl, a1, a1', q1⟩ := tv_ok gr.cfg.sub h1 rfl
      obtain ⟨p2, ws, rfl, a2, a2', q2⟩ := tv_ok gr.cfg.sub h2 rfl
      refine .inr (.inr (.inr ⟨p1, p2, vs, ws, rfl, rfl, a1, a2, ?_, fun e => ?_, fun e e' => ?_, fun e e' o l no hl => ?_⟩))
      · rw [q1.length, q2.length]; exact Nat.le_of_lt (million hz)
      · subst e
        have : xs = [] := by have := q1.length; cases xs with
          | nil => rfl
          | cons _ _ => simp at this
        subst this
        exact p F H _ gr (.tup a2' q2)
      · subst e'
        have : ys = [] := by have := q2.length; cases ys with
          | nil => rfl
          | cons _ _ => simp at this
        subst this
        exact p F H _ gr (by rw [List.append_nil]; exact .tup a1' q1)
      · have g2 := Grow.newF gr.cfg (.frz o (.tup (vs ++ ws))) hl
        exact p _ _ _ (gr.trans g2) (.tup (.frz no upd_same) ((DqA.mono g2.ff _ _ q1).append (DqA.mono g2.ff _ _ q2)))
    · exact p.elim
  · split at p
    · rename_i xs ys e1 e2
      split at p
      · rename_i hz
        obtain ⟨p1, vs, rfl, a1, q1⟩ := lv_ok gr.cfg.sub h1 e1
        obtain ⟨p2, ws, rfl, a2, q2⟩ := lv_ok gr.cfg.sub h2 e2
        refine .inr (.inr (.inl ⟨p1, p2, vs, ws, rfl, rfl, a1, a2, ?_, fun l hl => ?_⟩))
        · rw [q1.length, q2.length]; exact Nat.le_of_lt (million hz)
        · have g2 := Grow.newO gr.cfg (.lst (vs ++ ws)) hl (fun _ z => by cases z)
          exact p _ _ _ (gr.trans g2) ⟨l, _, rfl, same_none gr.hh hl, same_none gr.cfg.sub hl, upd_same, q1.append q2⟩
      · exact p.elim
    · exact p.elim
/-! ### == and in -/
def gEq (a b : RV) : Rs RV := (rsO a.data).bind fun x => (rsO b.data).bind fun y => if SeqAt.shaped x = true ∧ SeqAt.shaped y = true then okB (PyData.eqv x y) else .no
def gNe (a b : RV) : Rs RV := (rsO a.data).bind fun x => (rsO b.data).bind fun y => if SeqAt.shaped x = true ∧ SeqAt.shaped y = true then okB (!PyData.eqv x y) else .no
theorem s_eq : Op2S K ca (rEqD K) gEq := by
  intro W σ F0 H0 F H v1 v2 a b Q gr h1 h2 p
  unfold gEq at p
  cases e1 : a.data with
  | none => rw [e1] at p; exact p.elim
  | some x => cases e2 : b.data with
    | none => rw [e1, e2] at p; exact p.elim
    | some y =>
      rw [e1, e2] at p
      simp only [rsO_some, Rs.bind_ok] at p
      split at p
      · rename_i s; exact ⟨x, y, data_ok gr.cfg.sub h1 e1, data_ok gr.cfg.sub h2 e2, s.1, s.2, p F H _ gr (.bl _)⟩
      · exact p.elim
theorem s_ne : Op2S K ca (rNeD K) gNe := by
  intro W σ F0 H0 F H v1 v2 a b Q gr h1 h2 p
  unfold gNe at p
  cases e1 : a.data with
  | none => rw [e1] at p; exact p.elim
  | some x => cases e2 : b.data with
    | none => rw [e1, e2] at p; exact p.elim
    | some y =>
      rw [e1, e2] at p
      simp only [rsO_some, Rs.bind_ok] at p
      split at p
      · rename_i s; exact ⟨x, y, data_ok gr.cfg.sub h1 e1, data_ok gr.cfg.sub h2 e2, s.1, s.2, p F H _ gr (.bl _)⟩
      · exact p.elim
def rInT (K : PySem.W.Frag) : R2 := fun x y H Q => ∃ d ds, Dp K H x d ∧ Dp K H y (.tuple ds) ∧ SeqAt.shaped d = true ∧ SeqAt.shaped (.tuple ds) = true ∧ Q (.bl (ds.any fun z => PyData.eqv z d)) H
def rNotInT (K : PySem.W.Frag) : R2 := fun x y H Q => ∃ d ds, Dp K H x d ∧ Dp K H y (.tuple ds) ∧ SeqAt.shaped d = true ∧ SeqAt.shaped (.tuple ds) = true ∧ Q (.bl (!ds.any fun z => PyData.eqv z d)) H
theorem op_inT {X : Cx} (hu : X.A.units + 65 < cLine) : OpR X (compareOp .In) (rInT X.K) := by
  intro pins s σ H x y v u Q I rx ry h
  obtain ⟨d, ds, hd, he, sd, se, q⟩ := h
  obtain ⟨as, r1⟩ := Dp.reads I d x v hd rx
  obtain ⟨bs, r2⟩ := Dp.reads I (.tuple ds) y u he ry
  exact SeqAt.in_tuple_reads r2 r1 (SeqAt.canLay_of_shaped se) (SeqAt.canLay_of_shaped sd) (PyProof.Rows.room_in_shaped sd hu) ⟨.bl _, H, I, rfl, q⟩
theorem op_notInT {X : Cx} (hu : X.A.units + 65 < cLine) : OpR X (compareOp .NotIn) (rNotInT X.K) := by
  intro pins s σ H x y v u Q I rx ry h
  obtain ⟨d, ds, hd, he, sd, se, q⟩ := h
  obtain ⟨as, r1⟩ := Dp.reads I d x v hd rx
  obtain ⟨bs, r2⟩ := Dp.reads I (.tuple ds) y u he ry
  exact SeqAt.notIn_tuple_reads r2 r1 (SeqAt.canLay_of_shaped se) (SeqAt.canLay_of_shaped sd) (PyProof.Rows.room_in_shaped sd hu) ⟨.bl _, H, I, rfl, q⟩
abbrev rSubS : R2 := fun x y H Q => ∃ i j, x = .str i ∧ y = .str j ∧ Q (.bl (!(Builtin.Str.occurrences j i 0 j.length 1).isEmpty)) H
abbrev rNSubS : R2 := fun x y H Q => ∃ i j, x = .str i ∧ y = .str j ∧ Q (.bl (!(!(Builtin.Str.occurrences j i 0 j.length 1).isEmpty))) H
def rInA (K : PySem.W.Frag) : R2 := rOr (rInD K) (rOr (rInT K) rSubS)
def rNotInA (K : PySem.W.Frag) : R2 := rOr (rNotInD K) (rOr (rNotInT K) rNSubS)
theorem op_inA {X : Cx} (hu : X.A.units + 65 < cLine) : OpR X (compareOp .In) (rInA X.K) := op_or' (op_inD hu) (op_or' (op_inT hu) op_in_str)
theorem op_notInA {X : Cx} (hu : X.A.units + 65 < cLine) : OpR X (compareOp .NotIn) (rNotInA X.K) := op_or' (op_notInD hu) (op_or' (op_notInT hu) op_notin_str)
theorem hu65 {A : Around} {k : Nat} (hr : Room k A) : A.units + 65 < cLine := by have := hr.un; omega
def gInB (a b : RV) : Rs Bool := match a, b with
  | .d (.str x), .d (.str y) => .ok (!(Builtin.Str.occurrences y x 0 y.length 1).isEmpty)
  | a, .d (.tuple ds) => (rsO a.data).bind fun x => if SeqAt.shaped x = true ∧ SeqAt.shaped (.tuple ds) = true then .ok (ds.any fun z => PyData.eqv z x) else .no
  | a, b => (rsO a.data).bind fun x => (rsO b.data).bind fun y => match y with
    | .list ds => if SeqAt.shaped x = true ∧ SeqAt.shaped (.list ds) = true then .ok (ds.any fun z => PyData.eqv z x) else .no
    | _ => .no
def gIn (a b : RV) : Rs RV := (gInB a b).bind okB
def gNotIn (a b : RV) : Rs RV := (gInB a b).bind fun k => okB (!k)
theorem gInB_sound {v1 v2 : V} {a b : RV} {α : Type} {P : Rs α → Prop} {k : Bool → Rs α} (s : Same F H) (h1 : RVok K H0 F H v1 a) (h2 : RVok K H0 F H v2 b) (hn : ¬ P .no) (p : P ((gInB a b).bind k)) :
    (∃ d ds, Dp K H v1 d ∧ Dp K H v2 (.list ds) ∧ SeqAt.shaped d = true ∧ SeqAt.shaped (.list ds) = true ∧ P (k (ds.any fun z => PyData.eqv z d))) ∨
    (∃ d ds, Dp K H v1 d ∧ Dp K H v2 (.tuple ds) ∧ SeqAt.shaped d = true ∧ SeqAt.shaped (.tuple ds) = true ∧ P (k (ds.any fun z => PyData.eqv z d))) ∨
    ∃ i j, v1 = .str i ∧ v2 = .str j ∧ P (k (!(Builtin.Str.occurrences j i 0 j.length 1).isEmpty)) := by
  unfold gInB at p
  split at p
  · cases h1; cases h2; exact .inr (.inr ⟨_, _, rfl, rfl, p⟩)
  · rename_i ds
    cases e1 : a.data with
    | none => rw [e1] at p; exact absurd p hn
    | some x =>
      rw [e1] at p
      simp only [rsO_some, Rs.bind_ok] at p
      split at p
      · rename_i z; exact .inr (.inl ⟨x, ds, data_ok s h1 e1, data_ok s h2 rfl, z.1, z.2, p⟩)
      · exact absurd p hn
  · cases e1 : a.data with
    | none => rw [e1] at p; exact absurd p hn
    | some x => cases e2 : b.data with
      | none => rw [e1, e2] at p; exact absurd p hn
      | some y =>
        rw [e1, e2] at p
        simp only [rsO_some, Rs.bind_ok] at p
        split at p
        · split at p
          · rename_i z; exact .inl ⟨x, _, data_ok s h1 e1, data_ok s h2 e2, z.1, z.2, p⟩
          · exact absurd p hn
        · exact absurd p hn
theorem s_in : Op2S K ca (rInA K) gIn := by
  intro W σ F0 H0 F H v1 v2 a b Q gr h1 h2 p
  rcases gInB_sound (P := PostE K ca W σ F0 H0 Q) gr.cfg.sub h1 h2 (fun h => h) p with ⟨d, ds, q1, q2, q3, q4, q5⟩ | ⟨d, ds, q1, q2, q3, q4, q5⟩ | ⟨i, j, e1, e2, q5⟩
  · exact .inl ⟨d, ds, q1, q2, q3, q4, q5 F H _ gr (.bl _)⟩
  · exact .inr (.inl ⟨d, ds, q1, q2, q3, q4, q5 F H _ gr (.bl _)⟩)
  · exact .inr (.inr ⟨i, j, e1, e2, q5 F H _ gr (.bl _)⟩)
theorem s_notIn : Op2S K ca (rNotInA K) gNotIn := by
  intro W σ F0 H0 F H v1 v2 a b Q gr h1 h2 p
  rcases gInB_sound (P := PostE K ca W σ F0 H0 Q) gr.cfg.sub h1 h2 (fun h => h) p with ⟨d, ds, q1, q2, q3, q4, q5⟩ | ⟨d, ds, q1, q2, q3, q4, q5⟩ | ⟨i, j, e1, e2, q5⟩
  · exact .inl ⟨d, ds, q1, q2, q3, q4, q5 F H _ gr (.bl _)⟩
  · exact .inr (.inl ⟨d, ds, q1, q2, q3, q4, q5 F H _ gr (.bl _)⟩)
  · exact .inr (.inr ⟨i, j, e1, e2, q5 F H _ gr (.bl _)⟩)
/-- is None -/
def isNone : RV → Bool
  | .d .none => true
  | _ => false
def gIs (a b : RV) : Rs RV := match b with
  | .d .none => okB (isNone a)
  | _ => .no
def gIsNot (a b : RV) : Rs RV := match b with
  | .d .none => okB (!isNone a)
  | _ => .no
theorem isNone_ok (h : RVok K H0 F H v r) : decide (v = .non) = isNone r := by
  cases r with
  | d x => cases x <;> cases h <;> rfl
  | ol xs => obtain ⟨p, vs, rfl, _⟩ := h; rfl
  | bl xs => obtain ⟨p, vs, rfl, _⟩ := h; rfl
  | od xs => obtain ⟨p, vs, rfl, _⟩ := h; rfl
  | bd xs => obtain ⟨p, vs, rfl, _⟩ := h; rfl
  | ot xs => obtain ⟨p, vs, rfl, _⟩ := h; rfl
  | bt xs => obtain ⟨p, vs, rfl, _⟩ := h; rfl
  | sc ns => obtain ⟨a, rfl, _⟩ := h; rfl
  | xo a dd c fs => obtain ⟨rfl, _⟩ := h; rfl
  | t3 x ys kvs => obtain ⟨p, w, l, d, vs, us, rfl, _⟩ := h; rfl
  | fd kvs => obtain ⟨p, us, rfl, _⟩ := h; rfl
theorem s_is : Op2S K ca (fun x y H Q => y = .non ∧ Q (.bl (decide (x = .non))) H) gIs := by
  intro W σ F0 H0 F H v1 v2 a b Q gr h1 h2 p
  unfold gIs at p
  split at p
  · cases h2; exact ⟨rfl, by rw [isNone_ok h1]; exact p F H _ gr (.bl _)⟩
  · exact p.elim
theorem s_isNot : Op2S K ca (fun x y H Q => y = .non ∧ Q (.bl (!decide (x = .non))) H) gIsNot := by
  intro W σ F0 H0 F H v1 v2 a b Q gr h1 h2 p
  unfold gIsNot at p
  split at p
  · cases h2; exact ⟨rfl, by rw [isNone_ok h1]; exact p F H _ gr (.bl _)⟩
  · exact p.elim
/-! ### subscripts -/
def RV.sq (r : RV) : Option (List PyData) := match r with
  | .d (.tuple xs) => some xs
  | r => r.qv
def gIx (a b : RV) : Rs RV := match b with
  | .d (.int i) => (match a with
    | .d (.str z) => if z.length ≤ 1000000 then (rsO (atI z.cps.toList i)).bind fun c => .ok (.d (.str ⟨#[c]⟩)) else .no
    | a => (rsO a.sq).bind fun xs => (rsO (atI xs i)).bind fun d => .ok (.d d))
  | _ => .no
theorem s_ix : Op2S K ca (rIx K) gIx := by
  intro W σ F0 H0 F H v1 v2 a b Q gr h1 h2 p
  unfold gIx at p
  split at p
  · rename_i i
    cases h2
    split at p
    · rename_i z
      cases h1
      split at p
      · rename_i hz
        cases e : atI z.cps.toList i with
        | none => rw [e] at p; exact p.elim
        | some c => rw [e] at p; exact .inr (.inr ⟨z, i, c, rfl, rfl, Nat.le_of_lt (million hz), e, p F H _ gr (.str _)⟩)
      · exact p.elim
    · cases e : a.sq with
      | none => rw [e] at p; exact p.elim
      | some xs =>
        rw [e] at p
        simp only [rsO_some, Rs.bind_ok] at p
        cases e2 : atI xs i with
        | none => rw [e2] at p; exact p.elim
        | some d =>
          rw [e2] at p
          by_cases ht : a.tv = some xs
          · obtain ⟨p1, vs, rfl, a1, _, q1⟩ := tv_ok gr.cfg.sub h1 ht
            obtain ⟨w, e3, q3⟩ := atI_dq q1 e2
            exact .inr (.inl ⟨p1, vs, i, w, rfl, rfl, a1, e3, p F H _ gr q3⟩)
          · have eq : a.qv = some xs := by
              unfold RV.sq at e
              split at e
              · exact absurd (by exact e) ht
              · exact e
            obtain ⟨p1, vs, rfl, a1, q1⟩ := qv_ok gr.cfg.sub h1 eq
            obtain ⟨w, e3, q3⟩ := atI_dq q1 e2
            exact .inl ⟨p1, vs, i, w, rfl, rfl, a1, e3, p F H _ gr q3⟩
  · exact p.elim
/-! ### slices -/
def cutL {α : Type} (xs : List α) (lo hi : Option Int) : List α := (xs.drop (HT.sIx xs.length 0 lo)).take (HT.sIx xs.length xs.length hi - HT.sIx xs.length 0 lo)
theorem cut_dq {vs : List V} (h : DqA K F vs xs) (lo hi : Option Int) : DqA K F (cutV vs lo hi) (cutL xs lo hi) := by
  unfold cutV cutL
  rw [h.length]
  exact (h.drop _).take _
def gSl (a : RV) (lo hi : Option Int) : Rs RV := match a with
  | .d (.str z) => if z.length ≤ 1000000 then .ok (.d (.str (cutS z lo hi))) else .no
  | .d (.tuple xs) => .ok (.d (.tuple (cutL xs lo hi)))
  | a => (rsO a.qv).bind fun xs => .ok (.ol (cutL xs lo hi))
/-- t[lo:hi], what comes known to have no dict -/
def rSlN (K : PySem.W.Frag) : V → Option Int → Option Int → Hp → VK → Prop := fun x lo hi H Q => ∃ a xs, x = .ref a ∧ SqT K H a xs ∧
  (HT.sIx xs.length 0 lo = 0 ∧ HT.sIx xs.length xs.length hi = xs.length → Q (.ref a) H) ∧ (¬ (HT.sIx xs.length 0 lo = 0 ∧ HT.sIx xs.length xs.length hi = xs.length) → ∀ (o : Obj) p, o.dict = none → H p = none → Q (.ref p) (upd H p (.frz o (.tup (cutV xs lo hi)))))
theorem sl_tupN {X : Cx} : SlR X (rSlN X.K) := by
  intro pins s σ H x v vl vu lo hi sl Q I rx hs pl pu h
  obtain ⟨a, xs, rfl, hx, k1, k2⟩ := h
  cases rx
  obtain ⟨its, r, ht, hz⟩ := I.tuple hx
  have hl : its.toArray.size = xs.length := by rw [List.size_toArray]; exact r.length.symm
  refine ⟨"tuple", _, PyProof.Rows.slot_tuple_getitem.lookup, ht.typeIs, ?_⟩
  by_cases hw : HT.sIx xs.length 0 lo = 0 ∧ HT.sIx xs.length xs.length hi = xs.length
  · exact getItem_tuple_whole ht hs pl pu (by rw [hl]; exact hw) ⟨.ref a, H, I, rfl, k1 hw⟩
  · refine HT.getItem_tuple_cut ht hs pl pu (by rw [hl]; exact hw) ?_ (by rw [hl]; exact hz)
    rw [hl]
    have nn : H s.heap.objs.size = none := I.hok.fresh (Nat.le_refl _)
    refine ⟨.ref s.heap.objs.size, _, I.laid (t' := s.toks) (o := .frz _ (.tup (cutV xs lo hi))) (fun _ _ q => Heap.get?_push_of_some _ q) (Nat.le_refl _) ⟨Heap.get?_push_size _ rfl, ?_⟩, rfl, k2 hw _ _ rfl nn⟩
    exact ⟨Nat.le_trans (cutV_length xs lo hi) hz, _, (r.drop (HT.sIx xs.length 0 lo)).take (HT.sIx xs.length xs.length hi - HT.sIx xs.length 0 lo), _, Heap.get?_push_size _ rfl, rfl, _, rfl⟩
def rSlAll (K : PySem.W.Frag) : V → Option Int → Option Int → Hp → VK → Prop := fun x lo hi H Q => rSlS x lo hi H Q ∨ (rSlN K x lo hi H Q ∨ rSlL K x lo hi H Q)
theorem sl_all {X : Cx} : SlR X (rSlAll X.K) := SlR.or sl_str (SlR.or sl_tupN sl_list)
theorem s_sl {W : WX} {σ : L2.St} {F0 H0' : Hp} {lo hi : Option Int} {Q : VK} (gr : Grow F0 H0' F H) (h : RVok K H0' F H v r) (p : PostE K ca W σ F0 H0' Q (gSl r lo hi)) : rSlAll K v lo hi H Q := by
  unfold gSl at p
  split at p
  · cases h
    split at p
    · rename_i hz
      exact .inl ⟨_, rfl, Nat.le_of_lt (million hz), p F H _ gr (.str _)⟩
    · exact p.elim
  · rename_i xs
    obtain ⟨p1, vs, rfl, a1, a2, q1⟩ := tv_ok gr.cfg.sub h rfl
    refine .inr (.inl ⟨p1, vs, rfl, a1, fun e => ?_, fun e o l no hl => ?_⟩)
    · have ew : cutL xs lo hi = xs := by
        unfold cutL
        rw [q1.length] at e
        rw [e.1, e.2]
        simp
      exact p F H _ gr (by rw [ew]; exact .tup a2 q1)
    · have g2 := Grow.newF gr.cfg (.frz o (.tup (cutV vs lo hi))) hl
      exact p _ _ _ (gr.trans g2) (.tup (.frz no upd_same) (DqA.mono g2.ff _ _ (cut_dq q1 lo hi)))
  · cases e : r.qv with
    | none => rw [e] at p; exact p.elim
    | some xs =>
      rw [e] at p
      obtain ⟨p1, vs, rfl, a1, q1⟩ := qv_ok gr.cfg.sub h e
      refine .inr (.inr ⟨p1, vs, rfl, a1, fun l hl => ?_⟩)
      have g2 := Grow.newO gr.cfg (.lst (cutV vs lo hi)) hl (fun _ z => by cases z)
      exact p _ _ _ (gr.trans g2) ⟨l, _, rfl, same_none gr.hh hl, same_none gr.cfg.sub hl, upd_same, cut_dq q1 lo hi⟩
end
end VL

namespace VL
open PySem PySem.Spec PyProof.Rows L2

/-! ## built-in functions -/
section
variable {K : PySem.W.Frag} {ca : Nat → Addr}
theorem pr1 {P : V → RV → Prop} {vs : List V} {r : RV} (h : Paired P vs [r]) : ∃ v, vs = [v] ∧ P v r := by
  cases h with
  | cons h1 h2 => cases h2; exact ⟨_, rfl, h1⟩
theorem pr2 {P : V → RV → Prop} {vs : List V} {r r' : RV} (h : Paired P vs [r, r']) : ∃ v w, vs = [v, w] ∧ P v r ∧ P w r' := by
  cases h with
  | cons h1 h2 => cases h2 with
    | cons h3 h4 => cases h4; exact ⟨_, _, rfl, h1, h3⟩
/-- a sequence that is read -/
theorem sq_ok {H0 F H : Hp} {v : V} {r : RV} {xs : List PyData} (s : Same F H) (h : RVok K H0 F H v r) (e : r.sq = some xs) : ∃ p vs, v = .ref p ∧ (SqL K H p vs ∨ SqT K H p vs) ∧ DqA K F vs xs := by
  by_cases ht : r.tv = some xs
  · obtain ⟨p1, vs, e1, a1, _, q1⟩ := tv_ok s h ht
    exact ⟨p1, vs, e1, .inr a1, q1⟩
  · have eq : r.qv = some xs := by
      unfold RV.sq at e
      split at e
      · exact absurd (by exact e) ht
      · exact e
    obtain ⟨p1, vs, e1, a1, q1⟩ := qv_ok s h eq
    exact ⟨p1, vs, e1, .inl a1, q1⟩
def gLen : List RV → Rs RV
  | [.d (.str z)] => if z.length ≤ 1000000 then okI z.length else .no
  | [.bd kvs] => okI kvs.length
  | [.od kvs] => okI kvs.length
  | [r] => (rsO r.sq).bind fun xs => okI xs.length
  | _ => .no
def rOrC (r r' : List V → Hp → VK → Prop) : List V → Hp → VK → Prop := fun xs H Q => r xs H Q ∨ r' xs H Q
abbrev rLenS (K : PySem.W.Frag) : List V → Hp → VK → Prop := fun xs H Q => ∃ p ys, xs = [.ref p] ∧ (SqL K H p ys ∨ SqT K H p ys) ∧ Q (.int ys.length) H
abbrev rLenT : List V → Hp → VK → Prop := fun xs H Q => ∃ z, xs = [.str z] ∧ z.length ≤ sizeLine ∧ Q (.int z.length) H
abbrev rLenD : List V → Hp → VK → Prop := fun xs H Q => ∃ p kvs, xs = [.ref p] ∧ Rd H p (.dK kvs) ∧ Q (.int kvs.length) H
theorem call_lenD' {X : Cx} : CallR X (.builtin "len") rLenD := by
  intro pins s σ H xs us Q I r h
  obtain ⟨a, kvs, rfl, ha, q⟩ := h
  obtain ⟨u, rfl, ru⟩ := vals1 r
  cases ru
  exact d_len I ha fun t s' I' => ⟨.int kvs.length, H, I', ⟨t, rfl⟩, q⟩
theorem call_lenA {X : Cx} : CallR X (.builtin "len") (fun xs H Q => rLenS X.K xs H Q ∨ (rLenT xs H Q ∨ rLenD xs H Q)) := CallR.or call_len_seq (CallR.or call_len_str call_lenD')
theorem KD.length {κ : Type} {F : Hp} : ∀ {a : List (κ × V)} {b : List (κ × PyData)}, KD K F a b → a.length = b.length := fun h => Paired.length h
theorem c_len : CaS K ca (fun xs H Q => rLenS K xs H Q ∨ (rLenT xs H Q ∨ rLenD xs H Q)) gLen := by
  intro W σ F0 H0 F H vs as Q gr h p
  unfold gLen at p
  split at p
  · obtain ⟨v, rfl, hx⟩ := pr1 h
    cases hx
    split at p
    · rename_i hz; exact .inr (.inl ⟨_, rfl, Nat.le_of_lt (million hz), p F H _ gr (.int _)⟩)
    · exact p.elim
  · obtain ⟨v, rfl, q, ks, rfl, hp, kd⟩ := pr1 h
    exact .inr (.inr ⟨q, ks, rfl, hp, by rw [kd.length]; exact p F H _ gr (.int _)⟩)
  · obtain ⟨v, rfl, q, ks, rfl, _, _, hp, kd⟩ := pr1 h
    exact .inr (.inr ⟨q, ks, rfl, .inl hp, by rw [kd.length]; exact p F H _ gr (.int _)⟩)
  · rename_i r _ _ _
    obtain ⟨v, rfl, hx⟩ := pr1 h
    cases e : r.sq with
    | none => rw [e] at p; exact p.elim
    | some xs =>
      rw [e] at p
      obtain ⟨q, ws, rfl, hq, dq⟩ := sq_ok gr.cfg.sub hx e
      exact .inl ⟨q, ws, rfl, hq, by rw [dq.length]; exact p F H _ gr (.int _)⟩
  · exact p.elim
def gTupleC : List RV → Rs RV
  | [r] => (match r.tv with
    | some xs => .ok (.d (.tuple xs))
    | none => (rsO r.qv).bind fun xs => .ok (.d (.tuple xs)))
  | _ => .no
def rTupN (K : PySem.W.Frag) : List V → Hp → VK → Prop := fun xs H Q => ∃ p ys, xs = [.ref p] ∧ ((SqL K H p ys ∧ ∀ (o : Obj) l, o.dict = none → H l = none → Q (.ref l) (upd H l (.frz o (.tup ys)))) ∨ (SqT K H p ys ∧ Q (.ref p) H))
theorem call_tupN {X : Cx} : CallR X (.type "tuple") (rTupN X.K) := by
  intro pins s σ H xs us Q I r h
  obtain ⟨p, ys, rfl, h⟩ := h
  obtain ⟨u, rfl, rx⟩ := vals1 r
  cases rx
  rcases h with ⟨hq, q⟩ | ⟨hq, q⟩
  rotate_left
  · obtain ⟨_, _, pl, _⟩ := I.tuple hq
    exact call_tuple_same pl ⟨.ref p, H, I, rfl, q⟩
  obtain ⟨its, rv, pl, hz⟩ := I.list hq
  have hl := rv.length
  refine call_tuple_list pl.isList (fun h' kp => ?_) (by simp only [List.size_toArray] <;> omega)
  have I1 : Inv X pins σ H { s with heap := h' } := I.kept (t' := s.toks) kp
  have nn : H h'.objs.size = none := I1.hok.fresh (Nat.le_refl _)
  exact ⟨.ref h'.objs.size, _, I1.laid (t' := s.toks) (o := .frz _ (.tup ys)) (fun _ _ e => Heap.get?_push_of_some _ e) (Nat.le_refl _) ⟨Heap.get?_push_size _ rfl, hz, its, rv, _, Heap.get?_push_size _ rfl, rfl, _, rfl⟩, rfl, q _ _ rfl nn⟩
theorem c_tuple : CaS K ca (rTupN K) gTupleC := by
  intro W σ F0 H0 F H vs as Q gr h p
  unfold gTupleC at p
  split at p
  · rename_i r
    obtain ⟨v, rfl, hx⟩ := pr1 h
    cases e : r.tv with
    | some xs =>
      rw [e] at p
      obtain ⟨q, ws, rfl, a1, a2, dq⟩ := tv_ok gr.cfg.sub hx e
      exact ⟨q, ws, rfl, .inr ⟨a1, p F H _ gr (.tup a2 dq)⟩⟩
    | none =>
      rw [e] at p
      simp only at p
      cases e2 : r.qv with
      | none => rw [e2] at p; exact p.elim
      | some xs =>
        rw [e2] at p
        obtain ⟨q, ws, rfl, a1, dq⟩ := qv_ok gr.cfg.sub hx e2
        refine ⟨q, ws, rfl, .inl ⟨a1, fun o l no hl => ?_⟩⟩
        have g2 := Grow.newF gr.cfg (.frz o (.tup ws)) hl
        exact p _ _ _ (gr.trans g2) (.tup (.frz no upd_same) (DqA.mono g2.ff _ _ dq))
  · exact p.elim
def gListC : List RV → Rs RV
  | [r] => (rsO r.sq).bind fun xs => .ok (.ol xs)
  | _ => .no
theorem c_list : CaS K ca (fun xs H Q => ∃ p ys, xs = [.ref p] ∧ (SqL K H p ys ∨ SqT K H p ys) ∧ ∀ l, H l = none → Q (.ref l) (upd H l (.lst ys))) gListC := by
  intro W σ F0 H0 F H vs as Q gr h p
  unfold gListC at p
  split at p
  · rename_i r
    obtain ⟨v, rfl, hx⟩ := pr1 h
    cases e : r.sq with
    | none => rw [e] at p; exact p.elim
    | some xs =>
      rw [e] at p
      obtain ⟨q, ws, rfl, hq, dq⟩ := sq_ok gr.cfg.sub hx e
      refine ⟨q, ws, rfl, hq, fun l hl => ?_⟩
      have g2 := Grow.newO gr.cfg (.lst ws) hl (fun _ z => by cases z)
      exact p _ _ _ (gr.trans g2) ⟨l, _, rfl, same_none gr.hh hl, same_none gr.cfg.sub hl, upd_same, dq⟩
  · exact p.elim
def gMin2 : List RV → Rs RV
  | [.d (.int i), .d (.int j)] => okI (if j < i then j else i)
  | _ => .no
def gMax2 : List RV → Rs RV
  | [.d (.int i), .d (.int j)] => okI (if j > i then j else i)
  | _ => .no
theorem c_min2 : CaS K ca (fun xs H Q => ∃ i j, xs = [.int i, .int j] ∧ Q (.int (if j < i then j else i)) H) gMin2 := by
  intro W σ F0 H0 F H vs as Q gr h p
  unfold gMin2 at p
  split at p
  · obtain ⟨v, w, rfl, h1, h2⟩ := pr2 h
    cases h1; cases h2
    exact ⟨_, _, rfl, p F H _ gr (.int _)⟩
  · exact p.elim
theorem c_max2 : CaS K ca (fun xs H Q => ∃ i j, xs = [.int i, .int j] ∧ Q (.int (if j > i then j else i)) H) gMax2 := by
  intro W σ F0 H0 F H vs as Q gr h p
  unfold gMax2 at p
  split at p
  · obtain ⟨v, w, rfl, h1, h2⟩ := pr2 h
    cases h1; cases h2
    exact ⟨_, _, rfl, p F H _ gr (.int _)⟩
  · exact p.elim
/-! ### lists of ints, of truth values -/
def intsD : List PyData → Option (List Int)
  | [] => some []
  | .int i :: xs => (intsD xs).map (i :: ·)
  | _ => none
def boolsD : List PyData → Option (List Bool)
  | [] => some []
  | .bool i :: xs => (boolsD xs).map (i :: ·)
  | _ => none
theorem ints_ok {F : Hp} : ∀ {xs : List PyData} {vs : List V} {ns : List Int}, DqA K F vs xs → intsD xs = some ns → vs = ns.map V.int
  | [], _, ns, h, e => by cases h; cases e; rfl
  | x :: xs, _, ns, h, e => by
    cases h with
    | cons h1 h2 =>
      cases x with
      | int i =>
        cases e2 : intsD xs with
        | none => simp [intsD, e2] at e
        | some ms => simp [intsD, e2] at e; subst e; cases h1; rw [ints_ok h2 e2]; rfl
      | _ => cases e
theorem bools_ok {F : Hp} : ∀ {xs : List PyData} {vs : List V} {ns : List Bool}, DqA K F vs xs → boolsD xs = some ns → vs = ns.map V.bl
  | [], _, ns, h, e => by cases h; cases e; rfl
  | x :: xs, _, ns, h, e => by
    cases h with
    | cons h1 h2 =>
      cases x with
      | bool i =>
        cases e2 : boolsD xs with
        | none => simp [boolsD, e2] at e
        | some ms => simp [boolsD, e2] at e; subst e; cases h1; rw [bools_ok h2 e2]; rfl
      | _ => cases e
@[simp] theorem intsD_map (ns : List Int) : intsD (ns.map .int) = some ns := by
  induction ns with
  | nil => rfl
  | cons i ns ih => simp [intsD, ih]
@[simp] theorem boolsD_map (ns : List Bool) : boolsD (ns.map .bool) = some ns := by
  induction ns with
  | nil => rfl
  | cons i ns ih => simp [boolsD, ih]
def ins (x : Int) : List Int → List Int
  | [] => [x]
  | y :: ys => if x ≤ y then x :: y :: ys else y :: ins x ys
def isort : List Int → List Int
  | [] => []
  | x :: xs => ins x (isort xs)
theorem ins_perm (x : Int) : ∀ ys, (ins x ys).Perm (x :: ys)
  | [] => .refl _
  | y :: ys => by
    unfold ins
    split
    · exact .refl _
    · exact ((ins_perm x ys).cons y).trans (.swap x y ys)
theorem isort_perm : ∀ xs, (isort xs).Perm xs
  | [] => .refl _
  | x :: xs => (ins_perm x _).trans ((isort_perm xs).cons x)
theorem ins_sorted (x : Int) : ∀ {ys : List Int}, ys.Pairwise (· ≤ ·) → (ins x ys).Pairwise (· ≤ ·)
  | [], _ => by simp [ins]
  | y :: ys, h => by
    have h1 := List.pairwise_cons.mp h
    unfold ins
    split
    · rename_i c
      refine List.pairwise_cons.mpr ⟨fun z hz => ?_, h⟩
      rcases List.mem_cons.mp hz with rfl | hz
      · exact c
      · exact Int.le_trans c (h1.1 z hz)
    · rename_i c
      refine List.pairwise_cons.mpr ⟨fun z hz => ?_, ins_sorted x h1.2⟩
      rcases List.mem_cons.mp ((ins_perm x ys).mem_iff.mp hz) with rfl | hz
      · omega
      · exact h1.1 z hz
theorem isort_sorted : ∀ xs, (isort xs).Pairwise (· ≤ ·)
  | [] => .nil
  | x :: xs => ins_sorted x (isort_sorted xs)
theorem sorted_uniq : ∀ {xs ys : List Int}, xs.Perm ys → xs.Pairwise (· ≤ ·) → ys.Pairwise (· ≤ ·) → xs = ys
  | [], ys, p, _, _ => (List.Perm.nil_eq p)
  | x :: xs, [], p, _, _ => by have := p.length_eq; simp at this
  | x :: xs, y :: ys, p, h1, h2 => by
    have a1 := List.pairwise_cons.mp h1
    have a2 := List.pairwise_cons.mp h2
    have e : x = y := by
      have m1 : x ∈ y :: ys := p.mem_iff.mp List.mem_cons_self
      have m2 : y ∈ x :: xs := p.mem_iff.mpr List.mem_cons_self
      rcases List.mem_cons.mp m1 with z | z
      · exact z
      · rcases List.mem_cons.mp m2 with z' | z'
        · exact z'.symm
        · have := a1.1 y z'; have := a2.1 x z; omega
    subst e
    rw [sorted_uniq ((List.perm_cons x).mp p) a1.2 a2.2]
def gSorted : List RV → Rs RV
  | [r] => (rsO r.qv).bind fun xs => (rsO (intsD xs)).bind fun ns => .ok (.ol ((isort ns).map .int))
  | _ => .no
theorem c_sorted : CaS K ca (rSortedI K) gSorted := by
  intro W σ F0 H0 F H vs as Q gr h p
  unfold gSorted at p
  split at p
  · rename_i r
    obtain ⟨v, rfl, hx⟩ := pr1 h
    cases e : r.qv with
    | none => rw [e] at p; exact p.elim
    | some xs =>
      rw [e] at p
      simp only [rsO_some, Rs.bind_ok] at p
      cases e2 : intsD xs with
      | none => rw [e2] at p; exact p.elim
      | some ns =>
        rw [e2] at p
        obtain ⟨q, ws, rfl, hq, dq⟩ := qv_ok gr.cfg.sub hx e
        have := ints_ok dq e2
        subst this
        refine ⟨q, ns, rfl, hq, fun ns' l pm so hl => ?_⟩
        have e3 : ns' = isort ns := sorted_uniq (pm.trans (isort_perm ns).symm) so (isort_sorted ns)
        subst e3
        have g2 := Grow.newO gr.cfg (.lst ((isort ns).map V.int)) hl (fun _ z => by cases z)
        exact p _ _ _ (gr.trans g2) ⟨l, _, rfl, same_none gr.hh hl, same_none gr.cfg.sub hl, upd_same, DqA.of_ints _⟩
  · exact p.elim
def gAny : List RV → Rs RV
  | [r] => (rsO r.qv).bind fun xs => (rsO (boolsD xs)).bind fun bs => okB (bs.any id)
  | _ => .no
def gAll : List RV → Rs RV
  | [r] => (rsO r.qv).bind fun xs => (rsO (boolsD xs)).bind fun bs => okB (bs.all id)
  | _ => .no
def gSum : List RV → Rs RV
  | [r] => (rsO r.qv).bind fun xs => (rsO (intsD xs)).bind fun bs => okI bs.sum
  | _ => .no
theorem c_any : CaS K ca (rAny K) gAny := by
  intro W σ F0 H0 F H vs as Q gr h p
  unfold gAny at p
  split at p
  · rename_i r
    obtain ⟨v, rfl, hx⟩ := pr1 h
    cases e : r.qv with
    | none => rw [e] at p; exact p.elim
    | some xs =>
      rw [e] at p
      simp only [rsO_some, Rs.bind_ok] at p
      cases e2 : boolsD xs with
      | none => rw [e2] at p; exact p.elim
      | some ns =>
        rw [e2] at p
        obtain ⟨q, ws, rfl, hq, dq⟩ := qv_ok gr.cfg.sub hx e
        have := bools_ok dq e2
        subst this
        exact ⟨q, ns, rfl, hq, p F H _ gr (.bl _)⟩
  · exact p.elim
theorem c_all : CaS K ca (rAll K) gAll := by
  intro W σ F0 H0 F H vs as Q gr h p
  unfold gAll at p
  split at p
  · rename_i r
    obtain ⟨v, rfl, hx⟩ := pr1 h
    cases e : r.qv with
    | none => rw [e] at p; exact p.elim
    | some xs =>
      rw [e] at p
      simp only [rsO_some, Rs.bind_ok] at p
      cases e2 : boolsD xs with
      | none => rw [e2] at p; exact p.elim
      | some ns =>
        rw [e2] at p
        obtain ⟨q, ws, rfl, hq, dq⟩ := qv_ok gr.cfg.sub hx e
        have := bools_ok dq e2
        subst this
        exact ⟨q, ns, rfl, hq, p F H _ gr (.bl _)⟩
  · exact p.elim
theorem c_sum : CaS K ca (rSum K) gSum := by
  intro W σ F0 H0 F H vs as Q gr h p
  unfold gSum at p
  split at p
  · rename_i r
    obtain ⟨v, rfl, hx⟩ := pr1 h
    cases e : r.qv with
    | none => rw [e] at p; exact p.elim
    | some xs =>
      rw [e] at p
      simp only [rsO_some, Rs.bind_ok] at p
      cases e2 : intsD xs with
      | none => rw [e2] at p; exact p.elim
      | some ns =>
        rw [e2] at p
        obtain ⟨q, ws, rfl, hq, dq⟩ := qv_ok gr.cfg.sub hx e
        have := ints_ok dq e2
        subst this
        exact ⟨q, ns, rfl, hq, p F H _ gr (.int _)⟩
  · exact p.elim
/-- the greatest, the least of a list of ints -/
def maxL : List Int → Option Int
  | [] => none
  | x :: xs => some (xs.foldl (fun a b => if b > a then b else a) x)
def minL : List Int → Option Int
  | [] => none
  | x :: xs => some (xs.foldl (fun a b => if b < a then b else a) x)
theorem fold_max (xs : List Int) : ∀ x, (xs.foldl (fun a b => if b > a then b else a) x) ∈ x :: xs ∧ ∀ y ∈ x :: xs, y ≤ xs.foldl (fun a b => if b > a then b else a) x := by
  induction xs with
  | nil => intro x; simp
  | cons z xs ih =>
    intro x
    simp only [List.foldl_cons]
    by_cases c : z > x
    · rw [if_pos c]
      obtain ⟨i1, i2⟩ := ih z
      refine ⟨List.mem_cons_of_mem _ i1, fun y hy => ?_⟩
      rcases List.mem_cons.mp hy with rfl | hy
      · have := i2 z List.mem_cons_self; omega
      · exact i2 y hy
    · rw [if_neg c]
      obtain ⟨i1, i2⟩ := ih x
      refine ⟨?_, fun y hy => ?_⟩
      · rcases List.mem_cons.mp i1 with e | e
        · rw [e]; exact List.mem_cons_self
        · exact List.mem_cons_of_mem _ (List.mem_cons_of_mem _ e)
      · rcases List.mem_cons.mp hy with rfl | hy
        · exact i2 y List.mem_cons_self
        · rcases List.mem_cons.mp hy with rfl | hy
          · have := i2 x List.mem_cons_self; omega
          · exact i2 y (List.mem_cons_of_mem _ hy)
theorem fold_min (xs : List Int) : ∀ x, (xs.foldl (fun a b => if b < a then b else a) x) ∈ x :: xs ∧ ∀ y ∈ x :: xs, xs.foldl (fun a b => if b < a then b else a) x ≤ y := by
  induction xs with
  | nil => intro x; simp
  | cons z xs ih =>
    intro x
    simp only [List.foldl_cons]
    by_cases c : z < x
    · rw [if_pos c]
      obtain ⟨i1, i2⟩ := ih z
      refine ⟨List.mem_cons_of_mem _ i1, fun y hy => ?_⟩
      rcases List.mem_cons.mp hy with rfl | hy
      · have := i2 z List.mem_cons_self; omega
      · exact i2 y hy
    · rw [if_neg c]
      obtain ⟨i1, i2⟩ := ih x
      refine ⟨?_, fun y hy => ?_⟩
      · rcases List.mem_cons.mp i1 with e | e
        · rw [e]; exact List.mem_cons_self
        · exact List.mem_cons_of_mem _ (List.mem_cons_of_mem _ e)
      · rcases List.mem_cons.mp hy with rfl | hy
        · exact i2 y List.mem_cons_self
        · rcases List.mem_cons.mp hy with rfl | hy
          · have := i2 x List.mem_cons_self; omega
          · exact i2 y (List.mem_cons_of_mem _ hy)
def gMax1 : List RV → Rs RV
  | [r] => (rsO r.qv).bind fun xs => (rsO (intsD xs)).bind fun bs => (rsO (maxL bs)).bind okI
  | _ => .no
def gMin1 : List RV → Rs RV
  | [r] => (rsO r.qv).bind fun xs => (rsO (intsD xs)).bind fun bs => (rsO (minL bs)).bind okI
  | _ => .no
theorem c_max1 : CaS K ca (rMax K) gMax1 := by
  intro W σ F0 H0 F H vs as Q gr h p
  unfold gMax1 at p
  split at p
  · rename_i r
    obtain ⟨v, rfl, hx⟩ := pr1 h
    cases e : r.qv with
    | none => rw [e] at p; exact p.elim
    | some xs =>
      rw [e] at p
      simp only [rsO_some, Rs.bind_ok] at p
      cases e2 : intsD xs with
      | none => rw [e2] at p; exact p.elim
      | some ns =>
        rw [e2] at p
        obtain ⟨q, ws, rfl, hq, dq⟩ := qv_ok gr.cfg.sub hx e
        have := ints_ok dq e2
        subst this
        cases ns with
        | nil => exact p.elim
        | cons n ns =>
          refine ⟨q, n :: ns, rfl, hq, by simp, fun m hm hle => ?_⟩
          have f := fold_max ns n
          have e3 : m = ns.foldl (fun a b => if b > a then b else a) n := by have := f.2 m hm; have := hle _ f.1; omega
          rw [e3]
          exact p F H _ gr (.int _)
  · exact p.elim
theorem c_min1 : CaS K ca (rMin K) gMin1 := by
  intro W σ F0 H0 F H vs as Q gr h p
  unfold gMin1 at p
  split at p
  · rename_i r
    obtain ⟨v, rfl, hx⟩ := pr1 h
    cases e : r.qv with
    | none => rw [e] at p; exact p.elim
    | some xs =>
      rw [e] at p
      simp only [rsO_some, Rs.bind_ok] at p
      cases e2 : intsD xs with
      | none => rw [e2] at p; exact p.elim
      | some ns =>
        rw [e2] at p
        obtain ⟨q, ws, rfl, hq, dq⟩ := qv_ok gr.cfg.sub hx e
        have := ints_ok dq e2
        subst this
        cases ns with
        | nil => exact p.elim
        | cons n ns =>
          refine ⟨q, n :: ns, rfl, hq, by simp, fun m hm hle => ?_⟩
          have f := fold_min ns n
          have e3 : m = ns.foldl (fun a b => if b < a then b else a) n := by have := f.2 m hm; have := hle _ f.1; omega
          rw [e3]
          exact p F H _ gr (.int _)
  · exact p.elim
/-- str(n), int(text) -/
def gStr : List RV → Rs RV
  | [.d (.int i)] => if i.natAbs.log2 < 1920 then .ok (.d (.str (toString i : String))) else .no
  | _ => .no
theorem c_str : CaS K ca (fun xs H Q => ∃ i, xs = [.int i] ∧ i.natAbs.log2 < 1920 ∧ Q (.str (toString i : String)) H) gStr := by
  intro W σ F0 H0 F H vs as Q gr h p
  unfold gStr at p
  split at p
  · obtain ⟨v, rfl, hx⟩ := pr1 h
    cases hx
    split at p
    · rename_i c; exact ⟨_, rfl, c, p F H _ gr (.str _)⟩
    · exact p.elim
  · exact p.elim
def gInt : List RV → Rs RV
  | [.d (.str a)] => (rsO (PySem.intText? a)).bind fun n => if a.length ≤ 640 then okI n else .no
  | _ => .no
theorem c_int : CaS K ca (fun xs H Q => ∃ a n, xs = [.str a] ∧ PySem.intText? a = some n ∧ a.length ≤ 640 ∧ Q (.int n) H) gInt := by
  intro W σ F0 H0 F H vs as Q gr h p
  unfold gInt at p
  split at p
  · rename_i a
    obtain ⟨v, rfl, hx⟩ := pr1 h
    cases hx
    cases e : PySem.intText? a with
    | none => rw [e] at p; exact p.elim
    | some n =>
      rw [e] at p
      simp only [rsO_some, Rs.bind_ok] at p
      split at p
      · rename_i c; exact ⟨_, _, rfl, e, c, p F H _ gr (.int _)⟩
      · exact p.elim
  · exact p.elim
end
section
variable {ca : Nat → Addr} {W : WX} {X : Cx} {a b e : Expr} {es : List Expr} {fa fb : VEnv → Rs RV} {pos : Pos}
/-! ### slices -/
structure VO (ca : Nat → Addr) (W : WX) (X : Cx) (e : Option Expr) (f : VEnv → Rs (Option Int)) : Prop where
  ex : ∃ t, PO X e t ∧ ∀ B F env σ H Q, StOk X.K B F env σ H → (∀ o, f env = .ok o → ∀ F' H', Grow F H F' H' → Q o H') → (∀ c fs, f env = .ex c fs → PostX X.K ca W σ F H c fs) → f env ≠ .no → t σ H Q
def oN : VEnv → Rs (Option Int) := fun _ => .ok none
def oS (f : VEnv → Rs RV) : VEnv → Rs (Option Int) := fun env => (f env).bind fun r => match r with
  | .d (.int i) => .ok (some i)
  | _ => .no
theorem vo_none : VO ca W X none oN := ⟨_, po_none, fun B F env σ H Q st p _ _ => p none rfl F H (Grow.refl st.cfg)⟩
theorem vo_some (h : VE ca W X e fa) : VO ca W X (some e) (oS fa) := by
  obtain ⟨t, pe, se⟩ := h
  refine ⟨_, po_some pe, fun B F env σ H Q st p px pn => ?_⟩
  show t σ H fun x H1 => ∃ i, x = .int i ∧ Q (some i) H1
  refine se B F env σ H _ st ?_
  unfold oS at p px pn
  cases e1 : fa env with
  | no => rw [e1] at pn; exact (pn rfl).elim
  | ex c fs => exact px c fs (by rw [e1]; rfl)
  | ok r =>
    rw [e1] at p pn
    intro F' H' v g q
    simp only [Rs.bind_ok] at p pn
    split at pn
    · rename_i i; cases q; exact ⟨i, rfl, p _ rfl F' H' g⟩
    · exact (pn rfl).elim
def cSl (f : VEnv → Rs RV) (l h : VEnv → Rs (Option Int)) : VEnv → Rs RV := fun env => (f env).bind fun r => (l env).bind fun lo => (h env).bind fun hi => gSl r lo hi
theorem ve_sl {lo hi : Option Expr} {p2 : Pos} {l h : VEnv → Rs (Option Int)} (he : VE ca W X e fa) (hl : VO ca W X lo l) (hh : VO ca W X hi h) : VE ca W X (.Subscript e (.Slice lo hi none p2) pos) (cSl fa l h) := by
  obtain ⟨t, pe, se⟩ := he
  obtain ⟨tl, pl, sl⟩ := hl
  obtain ⟨th, ph, sh⟩ := hh
  refine ⟨_, pe_slice sl_all pe pl ph, fun B F env σ H Q st p => ?_⟩
  show t σ H fun x H1 => tl σ H1 fun l H2 => th σ H2 fun u H3 => rSlAll X.K x l u H3 Q
  refine seqE (PostE X.K ca W σ F H Q) se st p (fun _ _ h => h) (fun h => h) fun r F1 H1 v p1 g1 q1 => ?_
  refine sl B F1 env σ H1 _ (st.grow g1) (fun o eo F2 H2 g2 => ?_) (fun c fs ex => ?_) (fun en => ?_)
  · rw [eo] at p1
    simp only [Rs.bind_ok] at p1
    refine sh B F2 env σ H2 _ ((st.grow g1).grow g2) (fun u eu F3 H3 g3 => ?_) (fun c fs ex => ?_) (fun en => ?_)
    · rw [eu] at p1
      exact s_sl ((g1.trans g2).trans g3) ((q1.grow g2).grow g3) p1
    · rw [ex] at p1; exact PostX.mono (g1.trans g2) p1
    · rw [en] at p1; exact p1
  · rw [ex] at p1; exact PostX.mono g1 p1
  · rw [en] at p1; exact p1
def gRev (r : RV) : Rs RV := (rsO r.qv).bind fun xs => .ok (.ol xs.reverse)
theorem ve_rev {k : Nat} {p1 p2 p3 : Pos} (he : VE ca W X e fa) : VE ca W X (.Subscript e (.Slice none none (some (.UnaryOp .USub (.Constant (.int 1) k p1) p2)) p3) pos) (c1 gRev fa) := by
  obtain ⟨t, pe, se⟩ := he
  refine ⟨_, pe_revL pe, fun B F env σ H Q st p => ?_⟩
  show t σ H fun x H1 => ∃ a xs, x = .ref a ∧ SqL X.K H1 a xs ∧ ∀ p, H1 p = none → Q (.ref p) (upd H1 p (.lst xs.reverse))
  refine seqE (PostE X.K ca W σ F H Q) se st p (fun _ _ h => h) (fun h => h) fun r F1 H1 v p1 g1 q1 => ?_
  unfold gRev at p1
  cases e1 : r.qv with
  | none => rw [e1] at p1; exact p1.elim
  | some xs =>
    rw [e1] at p1
    obtain ⟨q, ws, rfl, hq, dq⟩ := qv_ok g1.cfg.sub q1 e1
    refine ⟨q, ws, rfl, hq, fun l hl => ?_⟩
    have g2 := Grow.newO g1.cfg (.lst ws.reverse) hl (fun _ z => by cases z)
    exact p1 _ _ _ (g1.trans g2) ⟨l, _, rfl, same_none g1.hh hl, same_none g1.cfg.sub hl, upd_same, dq.rev⟩
/-! ### isinstance(e, T), T a built-in class -/
def tyD : PyData → Option String
  | .none => some "NoneType"
  | .bool _ => some "bool"
  | .int _ => some "int"
  | .str _ => some "str"
  | .list _ => some "list"
  | .tuple _ => some "tuple"
  | .dict _ => none
def gIsi (T : String) (r : RV) : Rs RV := (rsO (r.data.bind tyD)).bind fun t => (rsO (kitB t T)).bind okB
theorem ty_ok {K : PySem.W.Frag} {H0 F H : Hp} {v : V} {r : RV} {t : String} (s : Same F H) (h : RVok K H0 F H v r) (e : r.data.bind tyD = some t) : TyX K H v (.type t) := by
  have lst : ∀ p vs, SqL K H p vs → TyX K H (.ref p) (.type "list") := fun p vs h => by
    rcases h with (h | ⟨o, h⟩) | ⟨o, its, n, hk, hc, _⟩
    · exact .base (.lst h)
    · exact .base (.frz h)
    · exact .kList hk hc
  have tup : ∀ p vs, SqT K H p vs → TyX K H (.ref p) (.type "tuple") := fun p vs h => by
    rcases h with (h | ⟨o, h⟩) | ⟨o, its, n, hk, hc, _⟩
    · exact .base (.tup h)
    · exact .fTuple h
    · exact .kTuple hk hc
  cases r with
  | d x =>
    cases x with
    | none => cases e; cases h; exact .base .non
    | bool b => cases e; cases h; exact .base (.bl _)
    | int b => cases e; cases h; exact .base (.int _)
    | str b => cases e; cases h; exact .base (.str _)
    | list xs => cases e; cases h with
      | lst h1 h2 => exact lst _ _ (SqL.of (s _ _ h1))
    | tuple xs => cases e; cases h with
      | tup h1 h2 => exact tup _ _ (same_seqT s h1.1)
    | dict kvs => cases e
  | ol xs => cases e; obtain ⟨p, vs, rfl, _, _, hp, _⟩ := h; exact lst _ _ (SqL.of hp)
  | bl xs => cases e; obtain ⟨p, vs, rfl, hp, _⟩ := h; exact lst _ _ (SqL.of hp)
  | sc ns => cases e; obtain ⟨p, rfl, hp⟩ := h; exact lst _ _ (s.seq hp)
  | _ => cases e
theorem ve_isi {T : Str} {T' : String} {p p2 : Pos} (hg : Gl X "isinstance") (hm : X.mg "isinstance" = none) (hg2 : Gl X T) (hm2 : X.mg T = none) (hv : bootBuiltins T = some (.type T')) (he : VE ca W X e fa) (hn2 : T ≠ "__name__" := by decide) (hd2 : (T == ("__debug__" : Str)) = false := by decide)
    (hs : starEach [e, .Name T p2] X.env = (false, eval e X.env) :: starEach [.Name T p2] X.env := by rfl) (hs2 : starEach [.Name T p2] X.env = (false, eval (.Name T p2) X.env) :: starEach [] X.env := by rfl) (hpl : (backTo pos (starEach [.Name T p2] X.env)).any (·.1) = false := by rfl) :
    VE ca W X (.Call (.Name "isinstance" p) [e, .Name T p2] [] pos) (c1 (gIsi T') fa) := by
  obtain ⟨t, pe, se⟩ := he
  refine ⟨_, pe_callB call_isi hg hm (by decide +kernel) (pa_cons pe (pa_cons (pe_bltn (v := .ty T') hg2 hm2 hv rfl hn2 hd2) pa_nil hs2) hs) (by decide) (by decide) hs hpl, fun B F env σ H Q st q => ?_⟩
  show t σ H fun x H1 => rIsi X.K [x, .ty T'] H1 Q
  refine seqE (PostE X.K ca W σ F H Q) se st q (fun _ _ h => h) (fun h => h) fun r F1 H1 v p1 g1 q1 => ?_
  unfold gIsi at p1
  cases e1 : r.data.bind tyD with
  | none => rw [e1] at p1; exact p1.elim
  | some ty =>
    rw [e1] at p1
    simp only [rsO_some, Rs.bind_ok] at p1
    cases e2 : kitB ty T' with
    | none => rw [e2] at p1; exact p1.elim
    | some k => rw [e2] at p1; exact ⟨v, .ty T', .type ty, .type T', k, rfl, .ty T', ty_ok g1.cfg.sub q1 e1, kit_ty e2, p1 F1 H1 _ g1 (.bl _)⟩
/-! ### range with a step of -1 -/
def gR3 : List RV → Rs (List PyData)
  | [.d (.int i), .d (.int j), .d (.int c)] => if c = -1 ∧ i.natAbs ≤ 1000000 ∧ j.natAbs ≤ 1000000 then .ok ((List.range (i - j).toNat).map fun k : Nat => .int (i - (k : Int))) else .no
  | _ => .no
theorem jw_rngc {G : Hp} (lo : Int) (n : Nat) : JWalk (Itc lo (-1) n) G ((List.range n).map fun i : Nat => V.int (lo - (i : Int))) where
  go := fun i H s hi => by
    have hi' : i < n := by simpa using hi
    exact hi'
  yld := fun i H x H' s y hi => by
    have hi' : i < n := by simpa using hi
    refine ⟨y.1, ?_⟩
    rw [y.2, List.getElem?_map, List.getElem?_range hi']
    show some (V.int (lo - (i : Int))) = some (V.int (lo + (i : Int) * -1))
    congr 2
    omega
  stop := fun H s => by show n ≤ _; simp
theorem vi_range3 {c tg : Expr} {p pos : Pos} {f : VEnv → Rs (List RV)} (hg : Gl X "range") (hm : X.mg "range" = none) (ha : VA ca W X [a, b, c] f)
    (hs : starEach [a, b, c] X.env = (false, eval a X.env) :: starEach [b, c] X.env := by rfl) (hpl : (backTo pos (starEach [b, c] X.env)).any (·.1) = false := by rfl) : VI ca W X tg (.Call (.Name "range" p) [a, b, c] [] pos) (iR gR3 f) := by
  obtain ⟨t, pa, sa⟩ := ha
  refine ⟨_, pi_range3 hg hm pa hs hpl, fun B F env σ H R st q => ?_⟩
  show t σ H fun vs H1 => ∃ (i j c : Int) (n : Nat), vs = [.int i, .int j, .int c] ∧ RgC i j c n ∧ R (Itc i c n) H1
  refine seqA (PostI X.K ca W σ F H R) sa st q (fun _ _ h => h) (fun h => h) fun rs F1 H1 vs p1 g1 q1 => ?_
  unfold gR3 at p1
  split at p1
  · rename_i i j c
    split at p1
    · rename_i hj
      cases q1 with
      | cons h1 h2 =>
        cases h2 with
        | cons h3 h4 =>
          cases h4 with
          | cons h5 h6 =>
            cases h6
            cases h1; cases h3; cases h5
            obtain ⟨rfl, k1, k2⟩ := hj
            refine ⟨i, j, -1, _, rfl, RgC.neg (by omega) (by omega) (by omega) (by omega), p1 _ F1 H1 _ g1 ?_ (jw_rngc i _)⟩
            have := DqA.of_ints (K := X.K) (F := F1) ((List.range (i - j).toNat).map fun k : Nat => i - (k : Int))
            rw [List.map_map, List.map_map] at this
            exact this
    · exact p1.elim
  · exact p1.elim
end
end VL

namespace VL
open PySem PySem.Spec PyProof.Rows L2

/-! ## writes to a list of one's own -/
section
variable {K : PySem.W.Frag} {ca : Nat → Addr} {W : WX} {B : Base} {F H : Hp} {env : VEnv} {σ : L2.St}
theorem own_xd {K : PySem.W.Frag} {H0 F H : Hp} {p : Addr} {r : RV} {xs : List (Str × V)} (o : r.own = true) (h : RVok K H0 F H (.ref p) r) (hx : H p = some (.xd xs)) : False := by
  cases r with
  | ol ys => obtain ⟨a, ws, z, _, _, h2, _⟩ := h; cases z; rw [hx] at h2; cases h2
  | od ys => obtain ⟨a, ws, z, _, _, h2, _⟩ := h; cases z; rw [hx] at h2; cases h2
  | ot ys =>
    obtain ⟨a, ws, z, _, _, h2, _⟩ := h; cases z; rw [hx] at h2
    have h3 := Option.some.inj h2
    have h4 : HO.xd xs = HO.ext _ := h3
    cases h4
  | _ => cases o
theorem StOk.ownAt (st : StOk K B F env σ H) {i : Nat} {xs : List PyData} (e : env[i]? = some (some (.ol xs))) : ∃ p vs, σ[i]? = some (some (.ref p)) ∧ B.H p = none ∧ F p = none ∧ H p = some (.lst vs) ∧ DqA K F vs xs := by
  obtain ⟨v, e1, p, vs, rfl, q⟩ := st.sl i _ e
  exact ⟨p, vs, e1, q⟩
theorem StOk.write (st : StOk K B F env σ H) {i : Nat} {r0 r1 : RV} {p : Addr} {o o' : HO} (e : env[i]? = some (some r0)) (ow : r0.own = true) (es : σ[i]? = some (some (.ref p))) (hp : H p = some o) (n0 : B.H p = none) (f0 : F p = none) (nt : ∀ xs, o' ≠ .tup xs)
    (ok : RVok K B.H F (upd H p o') (.ref p) r1) (ob : r1.isB = false) : StOk K B F (env.set i (some r1)) σ (upd H p o') := by
  have hi : i < env.length := (List.getElem?_eq_some_iff.mp e).1
  refine ⟨st.gr.write n0 f0 hp nt, by simpa using st.len, fun j r ej => ?_, fun j r a ej o z => ?_, fun j k r r' a jk e1 e2 o1 o2 z1 z2 => ?_⟩
  · by_cases h : i = j
    · subst h
      rw [List.getElem?_set_self hi] at ej
      cases ej
      exact ⟨_, es, ok⟩
    · rw [List.getElem?_set_ne h] at ej
      obtain ⟨w, ew, q⟩ := st.sl j r ej
      refine ⟨w, ew, ?_⟩
      have ne : ∀ a, r.own = true → w = .ref a → a ≠ p := fun a o z y => by
        subst y; subst z
        exact st.dis i j r0 r a h e ej ow o es ew
      have nb : ∀ a, r.isB = true → w = .ref a → a ≠ p := fun a o z y => by
        subst y; subst z
        obtain ⟨ob, hb⟩ := st.bo j r a ej o ew
        rw [n0] at hb; cases hb
      cases r with
      | d x => exact q
      | ol ys => obtain ⟨a, ws, z, n, f2, h2, q4⟩ := q; exact ⟨a, ws, z, n, f2, by rw [upd_ne (ne a rfl z)]; exact h2, q4⟩
      | od ys => obtain ⟨a, ws, z, n, f2, h2, q4⟩ := q; exact ⟨a, ws, z, n, f2, by rw [upd_ne (ne a rfl z)]; exact h2, q4⟩
      | ot ys => obtain ⟨a, ws, z, n, f2, h2, q4⟩ := q; exact ⟨a, ws, z, n, f2, by rw [upd_ne (ne a rfl z)]; exact h2, q4⟩
      | sc ns => exact q
      | t3 x ys kvs => exact t3_mono (Same.refl _) q
      | fd kvs => exact fd_mono (Same.refl _) q
      | bl ys => obtain ⟨a, ws, z, h2, q4⟩ := q; exact ⟨a, ws, z, by rw [upd_ne (nb a rfl z)]; exact h2, q4⟩
      | bd ys => obtain ⟨a, ws, z, h2, q4⟩ := q; exact ⟨a, ws, z, h2.imp (fun w => by rw [upd_ne (nb a rfl z)]; exact w) (fun ⟨o, w⟩ => ⟨o, by rw [upd_ne (nb a rfl z)]; exact w⟩), q4⟩
      | bt ys => obtain ⟨a, ws, z, h2, q4⟩ := q; exact ⟨a, ws, z, by rw [upd_ne (nb a rfl z)]; exact h2, q4⟩
      | xo a dd c fs =>
        obtain ⟨z, ws, h2, q4⟩ := q
        have hne : dd ≠ p := fun y => by
          subst y
          obtain ⟨v0, ev0, q0⟩ := st.sl i r0 e
          rw [es] at ev0
          cases ev0
          exact own_xd ow q0 h2
        exact ⟨z, ws, by rw [upd_ne hne]; exact h2, q4⟩
  · by_cases h : i = j
    · subst h
      rw [List.getElem?_set_self hi] at ej
      cases ej
      rw [ob] at o; cases o
    · rw [List.getElem?_set_ne h] at ej
      exact st.bo j r a ej o z
  · have own : ∀ (j : Nat) (r : RV), (env.set i (some r1))[j]? = some (some r) → r.own = true → ∃ r', env[j]? = some (some r') ∧ r'.own = true := fun j r ej o => by
      by_cases h : i = j
      · subst h; exact ⟨r0, e, ow⟩
      · rw [List.getElem?_set_ne h] at ej; exact ⟨r, ej, o⟩
    obtain ⟨s1, f1, g1⟩ := own j r e1 o1
    obtain ⟨s2, f2, g2⟩ := own k r' e2 o2
    exact st.dis j k s1 s2 a jk f1 f2 g1 g2 z1 z2
end
section
variable {ca : Nat → Addr} {W : WX} {X : Cx} {a b e : Expr} {es : List Expr} {fa fb : VEnv → Rs RV} {pos : Pos}
/-- xs.append(e), xs a list of the def's own -/
def sApp (i : Nat) (fe : VEnv → Rs RV) : VEnv → Out := fun env => match env[i]? with
  | some (some (.ol xs)) => (fe env).out env fun r => match r.toD with
    | some d => if xs.length ≤ 1000000 then .nx (env.set i (some (.ol (xs ++ [d])))) else .no
    | none => .no
  | _ => .no
theorem vs_app (i : Nat) {x : Str} {p1 p2 p3 : Pos} (he : VE ca W X e fa) (hN : X.N[i]? = some x := by rfl) (hv : Vis X.env.scope x := by first | exact Or.inl rfl | exact Or.inr (Or.inl rfl) | exact Or.inr (Or.inr rfl)) (hd : (x == ("__debug__" : Str)) = false := by decide) (hcd : (x == ("__classdict__" : Str)) = false := by decide)
    (hbase : attributeBase (.Name x p1) "append" X.env (eval (.Name x p1) X.env) = eval (.Name x p1) X.env := by rfl)
    (hfew : ((backTo p3 (starEach (e :: []) X.env)).all (fun x => !x.1) && (backToKw p3 (keywordEach [] X.env)).all (fun x => x.1.isSome)
      && decide ((e :: []).length + ([] : List Keyword).length + (if ([] : List Keyword).isEmpty then 0 else 1) < 30)) = true := by rfl)
    (hline : (p2.endLine == p3.line) = true := by rfl) (hs : starEach (e :: []) X.env = (false, eval e X.env) :: starEach [] X.env := by rfl) (hplain : (backTo p3 (starEach [] X.env)).any (·.1) = false := by rfl)
    (hsw : swapsWith (.Call (.Attribute (.Name x p1) "append" p2) [e] [] p3) none pos.line X.env = pure false := by rfl) :
    VS ca W X (.Expr (.Call (.Attribute (.Name x p1) "append" p2) [e] [] p3) pos) (sApp i fa) := by
  obtain ⟨t, pe, se⟩ := he
  refine ⟨_, ps_expr (pe_bm PySem.F.plainAttrs_list PySem.F.slot_list_append PySem.F.type_list_append mt_append (pe_var hN hv hd hcd) (pa_cons pe pa_nil hs) hbase hfew hline hs hplain) hsw, fun B F env σ H D st p => ?_⟩
  show ∃ v, σ[i]? = some (some v) ∧ (tyV X.K "list" v H ∧ t σ H fun y H1 => rAppend v [y] H1 fun _ H2 => D.nx σ H2)
  unfold sApp at p
  split at p
  · rename_i xs e1
    obtain ⟨a, vs, s1, n0, f0, hp, q⟩ := st.ownAt e1
    refine ⟨.ref a, s1, .inl ⟨rfl, vs, SqL.of hp⟩, ?_⟩
    refine outE se st p fun r F1 H1 v p1 g q1 => ?_
    cases e2 : r.toD with
    | none => rw [e2] at p1; exact p1.elim
    | some d =>
      rw [e2] at p1
      simp only at p1
      split at p1
      · rename_i hz
        obtain ⟨F2, g2, s2, q2⟩ := frz g (Fz.of q1 e2)
        have st2 := st.grow g2
        have hp2 := g2.hh _ _ hp
        have f2 := g2.stillFree f0 hp
        have q3 : DqA X.K F2 (vs ++ [v]) (xs ++ [d]) := (DqA.mono g2.ff _ _ q).append (.cons q2 .nil)
        refine ⟨a, vs, v, rfl, rfl, hp2, by rw [q.length]; exact million hz, ?_⟩
        exact p1 F2 σ _ s2 (st2.write (r1 := .ol (xs ++ [d])) e1 rfl s1 hp2 n0 f2 (fun _ z => by cases z) ⟨a, _, rfl, n0, f2, upd_same, q3⟩ rfl)
      · exact p1.elim
  · exact p.elim
/-- xs.pop() as a statement -/
def sPop (i : Nat) : VEnv → Out := fun env => match env[i]? with
  | some (some (.ol xs)) => if xs = [] then .no else .nx (env.set i (some (.ol xs.dropLast)))
  | _ => .no
/-- xs[i] = e -/
def sStore (i : Nat) (fi fe : VEnv → Rs RV) : VEnv → Out := fun env => match env[i]? with
  | some (some (.ol xs)) => (fe env).out env fun r => (fi env).out env fun ix => match r.toD, ix with
    | some d, .d (.int k) => (match ixN xs.length k with
      | some j => .nx (env.set i (some (.ol (xs.set j d))))
      | none => .no)
    | _, _ => .no
  | _ => .no
theorem vs_store (i : Nat) {x : Str} {ie : Expr} {p1 p2 : Pos} {fi : VEnv → Rs RV} (he : VE ca W X e fa) (hi : VE ca W X ie fi) (hN : X.N[i]? = some x := by rfl) (hv : Vis X.env.scope x := by first | exact Or.inl rfl | exact Or.inr (Or.inl rfl) | exact Or.inr (Or.inr rfl)) (hd : (x == ("__debug__" : Str)) = false := by decide) (hcd : (x == ("__classdict__" : Str)) = false := by decide)
    (ha : ∀ v, assign (.Subscript (.Name x p1) ie p2) X.env v = (do
      let ov ← holding [v] (eval (.Name x p1) X.env)
      let iv ← holding [v, ov] (eval ie X.env)
      standAt p2
      holding [v, ov, iv] (setItem ov iv v)
      release [v, ov, iv] []) := by intro _; rfl)
    (hs : swapsWithSole [.Subscript (.Name x p1) ie p2] e pos.line X.env = pure false := by rfl) (hw : swappedStores [.Subscript (.Name x p1) ie p2] e X.env = pure none := by rfl)
    (h1 : (assignEach [.Subscript (.Name x p1) ie p2] X.env).map (·.2) = [assign (.Subscript (.Name x p1) ie p2) X.env] := by rfl) :
    VS ca W X (.Assign [.Subscript (.Name x p1) ie p2] e pos) (sStore i fi fa) := by
  obtain ⟨t, pe, se⟩ := he
  obtain ⟨ti, pi, si⟩ := hi
  refine ⟨_, ps_asg pe (pg_sub (pe_var hN hv hd hcd) pi set_list ha) hs hw h1, fun B F env σ H D st p => ?_⟩
  show t σ H fun v H1 => ∃ o, σ[i]? = some (some o) ∧ ti σ H1 fun iv H3 => rSetL o iv v H3 fun H4 => D.nx σ H4
  unfold sStore at p
  split at p
  · rename_i xs e1
    obtain ⟨a, vs, s1, n0, f0, hp, q⟩ := st.ownAt e1
    refine outE se st p fun r F1 H1 v p1 g q1 => ⟨_, s1, ?_⟩
    refine outE si (st.grow g) p1 fun ix F2 H2 w p2 g2 q2 => ?_
    cases e2 : r.toD with
    | none => rw [e2] at p2; exact p2.elim
    | some d =>
      rw [e2] at p2
      cases ix with
      | d y =>
        cases y with
        | int k =>
          simp only at p2
          cases e3 : ixN xs.length k with
          | none => rw [e3] at p2; exact p2.elim
          | some j =>
            rw [e3] at p2
            cases q2
            obtain ⟨F3, g3, s3, q3⟩ := frz (g.trans g2) (Fz.of (q1.grow g2) e2)
            have hp3 := g3.hh _ _ hp
            have f3 := g3.stillFree f0 hp
            refine ⟨a, vs, k, j, rfl, rfl, hp3, by rw [q.length]; exact e3, ?_⟩
            exact p2 F3 σ _ s3 ((st.grow g3).write (r1 := .ol (xs.set j d)) e1 rfl s1 hp3 n0 f3 (fun _ z => by cases z) ⟨a, _, rfl, n0, f3, upd_same, DqA.set q3 j (DqA.mono g3.ff _ _ q)⟩ rfl)
        | _ => exact p2.elim
      | _ => exact p2.elim
  · exact p.elim
/-- x += e, ints -/
def sAug (i : Nat) (g : RV → RV → Rs RV) (fe : VEnv → Rs RV) : VEnv → Out := fun env => match env[i]? with
  | some (some r0) => (fe env).out env fun r => (g r0.bor r).out env fun z => putS i z env
  | _ => .no
theorem vs_augI {i : Nat} {x : Str} {pos' : Pos} (hN : X.N.Nodup) (hi : X.N[i]? = some x) (hx : Loc X.env.scope x) (he : VE ca W X e fa) (hf : X.fn x = true ∨ X.env.scope.names.lookup x = some .local := by first | exact .inl rfl | exact .inr rfl | assumption) :
    VS ca W X (.AugAssign (.Name x pos') .Add e pos) (sAug i (RV.i2 fun i j => okI (i + j)) fa) := by
  obtain ⟨t, pe, se⟩ := he
  refine ⟨_, ps_aug hN hi hx pe ip_add hf, fun B F env σ H D st p => ?_⟩
  show ∃ x, σ[i]? = some (some x) ∧ t σ H fun y H1 => ∃ k l, x = .int k ∧ y = .int l ∧ D.nx (σ.set i (some (.int (k + l)))) H1
  unfold sAug at p
  split at p
  · rename_i r0 e1
    obtain ⟨v, e2, q0⟩ := st.sl i r0 e1
    refine ⟨v, e2, ?_⟩
    refine outE se st p fun r F1 H1 w p1 g q1 => ?_
    cases r0 with
    | d x0 => cases x0 with
      | int k => cases r with
        | d y => cases y with
          | int l =>
            cases q0; cases q1
            exact ⟨k, l, rfl, rfl, snd_put (r := .d (.int (k + l))) st g (.int _) p1⟩
          | _ => exact p1.elim
        | _ => exact p1.elim
      | _ => cases r <;> exact p1.elim
    | _ => exact p1.elim
  · exact p.elim
end

/-! ## the law's end -/
def spTrue (K : PySem.W.Frag) : Sp := fun vs H Q _ => ∃ (a : Addr) (ns : List Int), vs = [.ref a] ∧ SqL K H a (ns.map V.int) ∧ ns.length ≤ 63 ∧ ∀ H', Q (.bl true) H'
theorem law_true {K : PySem.W.Frag} {ca : Nat → Addr} {G : List RV → Rs RV} (h : ∀ ns : List Int, ns.length ≤ 63 → G [.sc ns] = .ok (.d (.bool true))) (vs : List V) (H : Hp) (Q : VK) (E : XK) (s : spTrue K vs H Q E) : spV K ca 1 G vs H Q E := by
  obtain ⟨a, ns, rfl, hS, hl, q⟩ := s
  refine ⟨rfl, H, [.sc ns], ⟨Same.refl _, fun _ _ e => e⟩, .cons ⟨a, rfl, hS⟩ .nil, ?_⟩
  rw [h ns hl]
  intro G' H' v g r
  cases r
  exact q H'
end VL

namespace VL
open PySem PySem.Spec PyProof.Rows L2

/-! ## reckoning with semantic functions -/
@[simp] theorem fin_nx (e) : (Out.nx e).fin = .ok (.d .none) := rfl
@[simp] theorem fin_rt (r) : (Out.rt r).fin = .ok r := rfl
@[simp] theorem fin_ex (c fs e) : (Out.ex c fs e).fin = .ex c fs := rfl
@[simp] theorem fin_no : Out.no.fin = .no := rfl
/-- a turn's end in a loop -/
def Out.lp : Out → (VEnv → Out) → Out
  | .nx e, k => k e
  | .ct e, k => k e
  | .bk e, _ => .nx e
  | o, _ => o
@[simp] theorem lp_nx (e k) : (Out.nx e).lp k = k e := rfl
@[simp] theorem lp_ct (e k) : (Out.ct e).lp k = k e := rfl
@[simp] theorem lp_bk (e k) : (Out.bk e).lp k = .nx e := rfl
@[simp] theorem lp_rt (r k) : (Out.rt r).lp k = .rt r := rfl
@[simp] theorem lp_ex (c fs e k) : (Out.ex c fs e).lp k = .ex c fs e := rfl
@[simp] theorem lp_no (k) : Out.no.lp k = .no := rfl
@[simp] theorem loopF_nil (tg f env) : loopF tg f [] env = .nx env := rfl
theorem loopF_cons (tg f x xs env) : loopF tg f (x :: xs) env = match tgE tg x env with
  | none => .no
  | some e1 => (f e1).lp (loopF tg f xs) := by
  unfold loopF
  cases tgE tg x env with
  | none => rfl
  | some e1 => cases h : f e1 <;> simp [h, Out.lp]
theorem loopW_succ (c f n env) : loopW c f (n + 1) env = (c env).out env fun b => if b = true then (f env).lp (loopW c f n) else .nx env := by
  unfold loopW
  cases c env with
  | ok b => cases b with
    | false => rfl
    | true => simp only [Rs.out_ok, if_true]; cases h : f env <;> simp [h, Out.lp]
  | ex c fs => rfl
  | no => rfl
/-- a loop by a relation of what it carries; i: the turns so far -/
theorem loopF_go {α β : Type} {tg : Tg} {f : VEnv → Out} (R : Nat → α → VEnv → Prop) (emb : β → PyData) (step : α → β → α) : ∀ (xs : List β) (j : Nat) (s : α) (env : VEnv),
    (∀ i s env x, xs[i]? = some x → R (j + i) s env → ∃ e1, tgE tg (emb x) env = some e1 ∧ ∃ env', (f e1 = .nx env' ∨ f e1 = .ct env') ∧ R (j + i + 1) (step s x) env') → R j s env → ∃ env', loopF tg f (xs.map emb) env = .nx env' ∧ R (j + xs.length) (xs.foldl step s) env'
  | [], j, s, env, _, h => ⟨env, rfl, h⟩
  | x :: xs, j, s, env, hs, h => by
    obtain ⟨e1, t1, env', fe, r⟩ := hs 0 s env x rfl h
    obtain ⟨env2, l2, r2⟩ := loopF_go R emb step xs (j + 1) (step s x) env' (fun i s env y hy => by
      have := hs (i + 1) s env y (by simpa using hy)
      rw [show j + (i + 1) = j + 1 + i by omega] at this
      exact this) r
    refine ⟨env2, ?_, ?_⟩
    · rw [List.map_cons, loopF_cons, t1]
      rcases fe with fe | fe <;> simp only [fe, Out.lp] <;> exact l2
    · rw [List.length_cons, show j + (xs.length + 1) = j + 1 + xs.length by omega]; exact r2
theorem loopF_rel {α β : Type} {tg : Tg} {f : VEnv → Out} (R : Nat → α → VEnv → Prop) (emb : β → PyData) (step : α → β → α) (xs : List β) (s : α) (env : VEnv)
    (h : ∀ i s env x, xs[i]? = some x → R i s env → ∃ e1, tgE tg (emb x) env = some e1 ∧ ∃ env', (f e1 = .nx env' ∨ f e1 = .ct env') ∧ R (i + 1) (step s x) env') (h0 : R 0 s env) : ∃ env', loopF tg f (xs.map emb) env = .nx env' ∧ R xs.length (xs.foldl step s) env' := by
  have := loopF_go R emb step xs 0 s env (fun i s env x hx r => by rw [Nat.zero_add] at r ⊢; exact h i s env x hx r) h0
  rw [Nat.zero_add] at this
  exact this
/-- .. with a return on the way -/
def foldU {α β γ : Type} (step : α → β → Sum α γ) : List β → α → Sum α γ
  | [], s => .inl s
  | x :: xs, s => match step s x with
    | .inl s' => foldU step xs s'
    | .inr r => .inr r
theorem loopF_retgo {α β : Type} {tg : Tg} {f : VEnv → Out} (R : Nat → α → VEnv → Prop) (emb : β → PyData) (step : α → β → Sum α RV) : ∀ (xs : List β) (j : Nat) (s : α) (env : VEnv),
    (∀ i s env x, xs[i]? = some x → R (j + i) s env → ∃ e1, tgE tg (emb x) env = some e1 ∧ match step s x with
      | .inl s' => ∃ env', (f e1 = .nx env' ∨ f e1 = .ct env') ∧ R (j + i + 1) s' env'
      | .inr r => f e1 = .rt r) → R j s env → match foldU step xs s with
      | .inl s' => ∃ env', loopF tg f (xs.map emb) env = .nx env' ∧ R (j + xs.length) s' env'
      | .inr r => loopF tg f (xs.map emb) env = .rt r
  | [], j, s, env, _, h => ⟨env, rfl, h⟩
  | x :: xs, j, s, env, hs, h => by
    obtain ⟨e1, t1, q⟩ := hs 0 s env x rfl h
    have e0 : loopF tg f ((x :: xs).map emb) env = (f e1).lp (loopF tg f (xs.map emb)) := by rw [List.map_cons, loopF_cons, t1]
    rw [e0]
    unfold foldU
    cases hst : step s x with
    | inr r => rw [hst] at q; simp only at q ⊢; rw [q]; rfl
    | inl s' =>
      rw [hst] at q
      simp only at q ⊢
      obtain ⟨env', fe, r⟩ := q
      have e2 : (f e1).lp (loopF tg f (xs.map emb)) = loopF tg f (xs.map emb) env' := by rcases fe with fe | fe <;> rw [fe] <;> rfl
      rw [e2, List.length_cons, show j + (xs.length + 1) = j + 1 + xs.length by omega]
      exact loopF_retgo R emb step xs (j + 1) s' env' (fun i s env y hy => by
        have := hs (i + 1) s env y (by simpa using hy)
        rw [show j + (i + 1) = j + 1 + i by omega] at this
        exact this) r
theorem loopF_ret {α β : Type} {tg : Tg} {f : VEnv → Out} (R : Nat → α → VEnv → Prop) (emb : β → PyData) (step : α → β → Sum α RV) (xs : List β) (s : α) (env : VEnv)
    (h : ∀ i s env x, xs[i]? = some x → R i s env → ∃ e1, tgE tg (emb x) env = some e1 ∧ match step s x with
      | .inl s' => ∃ env', (f e1 = .nx env' ∨ f e1 = .ct env') ∧ R (i + 1) s' env'
      | .inr r => f e1 = .rt r) (h0 : R 0 s env) : match foldU step xs s with
      | .inl s' => ∃ env', loopF tg f (xs.map emb) env = .nx env' ∧ R xs.length s' env'
      | .inr r => loopF tg f (xs.map emb) env = .rt r := by
  have := loopF_retgo R emb step xs 0 s env (fun i s env x hx r => by rw [Nat.zero_add] at r ⊢; exact h i s env x hx r) h0
  rw [Nat.zero_add] at this
  exact this
@[simp] theorem lcF_nil (tg t fe env) : lcF tg t fe env [] = .ok [] := rfl
/-- a comprehension -/
theorem lcF_map {β : Type} {tg : Tg} {t : VEnv → Rs Bool} {fe : VEnv → Rs RV} {env : VEnv} (emb : β → PyData) (p : β → Bool) (g : β → PyData) : ∀ (xs : List β),
    (∀ x ∈ xs, ∃ e1, tgE tg (emb x) env = some e1 ∧ t e1 = .ok (p x) ∧ (p x = true → ∃ r, fe e1 = .ok r ∧ r.toD = some (g x))) → lcF tg t fe env (xs.map emb) = .ok ((xs.filter p).map g)
  | [], _ => rfl
  | x :: xs, h => by
    obtain ⟨e1, t1, c1, f1⟩ := h x List.mem_cons_self
    have ih := lcF_map (tg := tg) (t := t) (fe := fe) (env := env) emb p g xs fun y hy => h y (List.mem_cons_of_mem _ hy)
    rw [List.map_cons]
    unfold lcF
    rw [t1]
    simp only
    rw [c1]
    cases hp : p x with
    | false => simp only; rw [ih, List.filter_cons_of_neg (by simp [hp])]
    | true =>
      obtain ⟨r, f2, f3⟩ := f1 hp
      simp only
      rw [f2]
      simp only
      rw [f3]
      simp only
      rw [ih, List.filter_cons_of_pos hp]
      rfl
end VL

namespace VL
open PySem PySem.Spec PyProof.Rows L2
section
variable (f g : VEnv → Out) (fa fb : VEnv → Rs RV) (fA : VEnv → Rs (List RV)) (tb tc : VEnv → Rs Bool) (env : VEnv) (i j : Nat) (x y : PyData) (xs ys : List PyData)
@[simp] theorem e_nil : sNil env = .nx env := rfl
@[simp] theorem e_seq : sSeq f g env = (f env).then g := rfl
@[simp] theorem e_fz : sFz i f env = f (fzE i env) := rfl
@[simp] theorem e_bk : sBk env = .bk env := rfl
@[simp] theorem e_ct : sCt env = .ct env := rfl
@[simp] theorem e_ret : sRet fa env = (fa env).out env fun r => (r.nb).out env .rt := rfl
@[simp] theorem e_retN : sRetN env = .rt (.d .none) := rfl
@[simp] theorem e_drop : sDrop fa env = (fa env).out env fun _ => .nx env := rfl
@[simp] theorem e_set : sSet i fa env = (fa env).out env fun r => putS i r env := rfl
@[simp] theorem e_if : sIf tb f g env = (tb env).out env fun b => if b = true then f env else g env := rfl
@[simp] theorem e_for (tg src) : sFor tg src f env = (src env).out env fun xs => loopF tg f xs env := rfl
@[simp] theorem e_cC : cC x env = .ok (.d x) := rfl
@[simp] theorem e_c2 (h) : c2 h fa fb env = (fa env).bind fun x => (fb env).bind fun y => h x y := rfl
@[simp] theorem e_c1 (h) : c1 h fa env = (fa env).bind h := rfl
@[simp] theorem e_cA (h) : cA h fA env = (fA env).bind h := rfl
@[simp] theorem e_aN : aN env = .ok [] := rfl
@[simp] theorem e_aC : aC fa fA env = (fa env).bind fun x => (fA env).bind fun xs => .ok (x :: xs) := rfl
@[simp] theorem e_cB : cB fa env = (fa env).bind asB := rfl
@[simp] theorem e_asB (b : Bool) : asB (.d (.bool b)) = .ok b := rfl
@[simp] theorem e_bNot : bNot tb env = (tb env).bind fun b => .ok (!b) := rfl
@[simp] theorem e_bAnd : bAnd tb tc env = (tb env).bind fun b => if b = true then tc env else .ok false := rfl
@[simp] theorem e_bOr : bOr tb tc env = (tb env).bind fun b => if b = true then .ok true else tc env := rfl
@[simp] theorem e_vAnd : vAnd fa fb env = (cB fa env).bind fun b => if b = true then fb env else .ok (.d (.bool false)) := rfl
@[simp] theorem e_vOr : vOr fa fb env = (cB fa env).bind fun b => if b = true then .ok (.d (.bool true)) else fb env := rfl
@[simp] theorem e_vNot : vNot fa env = (cB fa env).bind fun b => .ok (.d (.bool (!b))) := rfl
@[simp] theorem e_vIf : vIf tb fa fb env = (tb env).bind fun b => if b = true then fa env else fb env := rfl
@[simp] theorem e_bYes : bYes env = .ok true := rfl
@[simp] theorem e_iL : iL fa env = (fa env).bind gL := rfl
@[simp] theorem e_iT : iT fa env = (fa env).bind gT := rfl
@[simp] theorem e_iLb : iLb fa env = (fa env).bind gLb := rfl
@[simp] theorem e_iR (h) : iR h fA env = (fA env).bind h := rfl
@[simp] theorem e_gL1 : gL (.d (.list xs)) = .ok xs := rfl
@[simp] theorem e_gL2 : gL (.ol xs) = .ok xs := rfl
@[simp] theorem e_gL3 (ns) : gL (.sc ns) = .ok (ns.map .int) := rfl
@[simp] theorem e_gT : gT (.d (.tuple xs)) = .ok xs := rfl
@[simp] theorem e_gLb1 : gLb (.d (.list xs)) = .ok xs := rfl
@[simp] theorem e_gLb2 : gLb (.ol xs) = .ok xs := rfl
@[simp] theorem e_gLb3 : gLb (.bl xs) = .ok xs := rfl
@[simp] theorem e_gLb4 (ns) : gLb (.sc ns) = .ok (ns.map .int) := rfl
@[simp] theorem e_nb1 : (RV.d x).nb = .ok (.d x) := rfl
@[simp] theorem e_nb2 : (RV.ol xs).nb = .ok (.ol xs) := rfl
@[simp] theorem e_bor1 : (RV.d x).bor = .d x := rfl
@[simp] theorem e_bor2 : (RV.ol xs).bor = .bl xs := rfl
@[simp] theorem e_bor3 : (RV.bl xs).bor = .bl xs := rfl
@[simp] theorem e_bor4 (ns) : (RV.sc ns).bor = .sc ns := rfl
@[simp] theorem e_arg1 : (RV.d x).arg = .d x := rfl
@[simp] theorem e_arg2 : (RV.ol xs).arg = .d (.list xs) := rfl
@[simp] theorem e_arg3 : (RV.bl xs).arg = .bl xs := rfl
@[simp] theorem e_arg4 (ns) : (RV.sc ns).arg = .sc ns := rfl
@[simp] theorem e_putd : putS i (.d x) env = if i < env.length then .nx (env.set i (some (.d x))) else .no := rfl
@[simp] theorem e_puto : putS i (.ol xs) env = if i < env.length then .nx (env.set i (some (.ol xs))) else .no := rfl
@[simp] theorem e_toD1 : (RV.d x).toD = some x := rfl
@[simp] theorem e_toD2 : (RV.ol xs).toD = some (.list xs) := rfl
@[simp] theorem e_allD0 : allD [] = some [] := rfl
@[simp] theorem e_allD1 (rs) : allD (.d x :: rs) = (allD rs).map (x :: ·) := by cases h : allD rs <;> simp [allD, h]
@[simp] theorem e_allD2 (rs) : allD (.ol xs :: rs) = (allD rs).map (.list xs :: ·) := by cases h : allD rs <;> simp [allD, h]
@[simp] theorem e_gTupl (rs) : gTupl rs = (rsO (allD rs)).bind fun ds => if ds.length ≤ 1000 then .ok (.d (.tuple ds)) else .no := rfl
@[simp] theorem e_gList (rs) : gList rs = (rsO (allD rs)).bind fun ds => if ds.length ≤ 1000 then .ok (.ol ds) else .no := rfl
@[simp] theorem e_tgnm : tgE (.nm i) x env = if i < env.length then some (env.set i (some (.d x))) else none := rfl
@[simp] theorem e_tgtp (is) : tgE (.tp is) (.tuple xs) env = tgEs is xs env := rfl
@[simp] theorem e_tg0 : tgEs [] [] env = some env := rfl
@[simp] theorem e_tg1 (is) : tgEs (i :: is) (x :: xs) env = if i < env.length then tgEs is xs (env.set i (some (.d x))) else none := rfl
@[simp] theorem e_sq1 : (RV.d (.tuple xs)).sq = some xs := rfl
@[simp] theorem e_sq2 : (RV.d (.list xs)).sq = some xs := rfl
@[simp] theorem e_sq3 : (RV.ol xs).sq = some xs := rfl
@[simp] theorem e_sq4 : (RV.bl xs).sq = some xs := rfl
@[simp] theorem e_sq5 (ns) : (RV.sc ns).sq = some (ns.map .int) := rfl
@[simp] theorem e_qv2 : (RV.d (.list xs)).qv = some xs := rfl
@[simp] theorem e_qv3 : (RV.ol xs).qv = some xs := rfl
@[simp] theorem e_qv4 : (RV.bl xs).qv = some xs := rfl
@[simp] theorem e_qv5 (ns) : (RV.sc ns).qv = some (ns.map .int) := rfl
@[simp] theorem e_data1 : (RV.d x).data = some x := rfl
@[simp] theorem e_data2 : (RV.ol xs).data = some (.list xs) := rfl
@[simp] theorem e_data3 : (RV.bl xs).data = some (.list xs) := rfl
@[simp] theorem e_okI (a : Int) : okI a = .ok (.d (.int a)) := rfl
@[simp] theorem e_okB (a : Bool) : okB a = .ok (.d (.bool a)) := rfl
@[simp] theorem e_i2 (h : Int → Int → Rs RV) (a b : Int) : RV.i2 h (.d (.int a)) (.d (.int b)) = h a b := rfl
@[simp] theorem e_sub (a b : Int) : gSub (.d (.int a)) (.d (.int b)) = .ok (.d (.int (a - b))) := rfl
@[simp] theorem e_mul (a b : Int) : gMul (.d (.int a)) (.d (.int b)) = if a.natAbs < 18446744073709551616 ∨ b.natAbs < 18446744073709551616 then .ok (.d (.int (a * b))) else .no := rfl
@[simp] theorem e_mod (a b : Int) : gMod (.d (.int a)) (.d (.int b)) = if 0 < b then .ok (.d (.int (a % b))) else .no := rfl
@[simp] theorem e_div (a b : Int) : gDiv (.d (.int a)) (.d (.int b)) = if 0 < b ∧ b.natAbs < 1073741824 then .ok (.d (.int (a / b))) else .no := rfl
@[simp] theorem e_pow (a b : Int) : gPow (.d (.int a)) (.d (.int b)) = if 0 ≤ b ∧ b ≤ 1000000 ∧ a.natAbs < 2 ^ 64 then .ok (.d (.int (a ^ b.toNat))) else .no := rfl
@[simp] theorem e_lt (a b : Int) : gLt (.d (.int a)) (.d (.int b)) = .ok (.d (.bool (decide (a < b)))) := rfl
@[simp] theorem e_le (a b : Int) : gLe (.d (.int a)) (.d (.int b)) = .ok (.d (.bool (decide (a ≤ b)))) := rfl
@[simp] theorem e_gt (a b : Int) : gGt (.d (.int a)) (.d (.int b)) = .ok (.d (.bool (decide (b < a)))) := rfl
@[simp] theorem e_ge (a b : Int) : gGe (.d (.int a)) (.d (.int b)) = .ok (.d (.bool (decide (b ≤ a)))) := rfl
@[simp] theorem e_neg (a : Int) : gNeg (.d (.int a)) = .ok (.d (.int (-a))) := rfl
@[simp] theorem e_addI (a b : Int) : gAdd (.d (.int a)) (.d (.int b)) = .ok (.d (.int (a + b))) := rfl
@[simp] theorem e_addS (a b : Str) : gAdd (.d (.str a)) (.d (.str b)) = if a.length + b.length ≤ 1000000 then .ok (.d (.str (a ++ b))) else .no := rfl
@[simp] theorem e_addT : gAdd (.d (.tuple xs)) (.d (.tuple ys)) = if xs.length + ys.length ≤ 1000000 then .ok (.d (.tuple (xs ++ ys))) else .no := rfl
@[simp] theorem e_addL1 : gAdd (.ol xs) (.ol ys) = if xs.length + ys.length ≤ 1000000 then .ok (.ol (xs ++ ys)) else .no := rfl
@[simp] theorem e_addL2 : gAdd (.ol xs) (.bl ys) = if xs.length + ys.length ≤ 1000000 then .ok (.ol (xs ++ ys)) else .no := rfl
@[simp] theorem e_addL3 : gAdd (.bl xs) (.ol ys) = if xs.length + ys.length ≤ 1000000 then .ok (.ol (xs ++ ys)) else .no := rfl
@[simp] theorem e_addL4 : gAdd (.bl xs) (.bl ys) = if xs.length + ys.length ≤ 1000000 then .ok (.ol (xs ++ ys)) else .no := rfl
@[simp] theorem e_addL5 : gAdd (.d (.list xs)) (.ol ys) = if xs.length + ys.length ≤ 1000000 then .ok (.ol (xs ++ ys)) else .no := rfl
@[simp] theorem e_addL6 : gAdd (.d (.list xs)) (.bl ys) = if xs.length + ys.length ≤ 1000000 then .ok (.ol (xs ++ ys)) else .no := rfl
@[simp] theorem e_addL7 : gAdd (.ol xs) (.d (.list ys)) = if xs.length + ys.length ≤ 1000000 then .ok (.ol (xs ++ ys)) else .no := rfl
@[simp] theorem e_addL8 : gAdd (.bl xs) (.d (.list ys)) = if xs.length + ys.length ≤ 1000000 then .ok (.ol (xs ++ ys)) else .no := rfl
@[simp] theorem e_addL9 : gAdd (.d (.list xs)) (.d (.list ys)) = if xs.length + ys.length ≤ 1000000 then .ok (.ol (xs ++ ys)) else .no := rfl
@[simp] theorem e_eq (a b : RV) : gEq a b = (rsO a.data).bind fun x => (rsO b.data).bind fun y => if SeqAt.shaped x = true ∧ SeqAt.shaped y = true then okB (PyData.eqv x y) else .no := rfl
@[simp] theorem e_ne (a b : RV) : gNe a b = (rsO a.data).bind fun x => (rsO b.data).bind fun y => if SeqAt.shaped x = true ∧ SeqAt.shaped y = true then okB (!PyData.eqv x y) else .no := rfl
@[simp] theorem e_in (a b : RV) : gIn a b = (gInB a b).bind okB := rfl
@[simp] theorem e_notIn (a b : RV) : gNotIn a b = (gInB a b).bind fun k => okB (!k) := rfl
@[simp] theorem e_inT (a : Int) : gInB (.d (.int a)) (.d (.tuple xs)) = if SeqAt.shaped (.int a) = true ∧ SeqAt.shaped (.tuple xs) = true then .ok (xs.any fun z => PyData.eqv z (.int a)) else .no := rfl
@[simp] theorem e_inT2 : gInB (.d (.tuple ys)) (.d (.tuple xs)) = if SeqAt.shaped (.tuple ys) = true ∧ SeqAt.shaped (.tuple xs) = true then .ok (xs.any fun z => PyData.eqv z (.tuple ys)) else .no := rfl
@[simp] theorem e_inL1 : gInB (.d x) (.d (.list xs)) = if SeqAt.shaped x = true ∧ SeqAt.shaped (.list xs) = true then .ok (xs.any fun z => PyData.eqv z x) else .no := by cases x <;> rfl
@[simp] theorem e_inL2 : gInB (.d x) (.ol xs) = if SeqAt.shaped x = true ∧ SeqAt.shaped (.list xs) = true then .ok (xs.any fun z => PyData.eqv z x) else .no := by cases x <;> rfl
@[simp] theorem e_inL3 : gInB (.d x) (.bl xs) = if SeqAt.shaped x = true ∧ SeqAt.shaped (.list xs) = true then .ok (xs.any fun z => PyData.eqv z x) else .no := by cases x <;> rfl
@[simp] theorem e_is (a : RV) : gIs a (.d .none) = .ok (.d (.bool (isNone a))) := rfl
@[simp] theorem e_isNot (a : RV) : gIsNot a (.d .none) = .ok (.d (.bool (!isNone a))) := rfl
@[simp] theorem e_isN1 : isNone (.d .none) = true := rfl
@[simp] theorem e_isN2 (a : Int) : isNone (.d (.int a)) = false := rfl
@[simp] theorem e_isN3 : isNone (.d (.tuple xs)) = false := rfl
@[simp] theorem e_isN4 : isNone (.d (.list xs)) = false := rfl
@[simp] theorem e_isN5 : isNone (.ol xs) = false := rfl
@[simp] theorem e_isN6 : isNone (.bl xs) = false := rfl
@[simp] theorem e_isN7 (s) : isNone (.d (.str s)) = false := rfl
@[simp] theorem e_ixT (a : Int) : gIx (.d (.tuple xs)) (.d (.int a)) = (rsO (atI xs a)).bind fun d => .ok (.d d) := rfl
@[simp] theorem e_ixL (a : Int) : gIx (.d (.list xs)) (.d (.int a)) = (rsO (atI xs a)).bind fun d => .ok (.d d) := rfl
@[simp] theorem e_ixO (a : Int) : gIx (.ol xs) (.d (.int a)) = (rsO (atI xs a)).bind fun d => .ok (.d d) := rfl
@[simp] theorem e_ixB (a : Int) : gIx (.bl xs) (.d (.int a)) = (rsO (atI xs a)).bind fun d => .ok (.d d) := rfl
@[simp] theorem e_ixSc (a : Int) (ns) : gIx (.sc ns) (.d (.int a)) = (rsO (atI (ns.map .int) a)).bind fun d => .ok (.d d) := rfl
@[simp] theorem e_ixS (a : Int) (z : Str) : gIx (.d (.str z)) (.d (.int a)) = if z.length ≤ 1000000 then (rsO (atI z.cps.toList a)).bind fun c => .ok (.d (.str ⟨#[c]⟩)) else .no := rfl
@[simp] theorem e_lenT : gLen [.d (.tuple xs)] = .ok (.d (.int xs.length)) := rfl
@[simp] theorem e_lenL : gLen [.d (.list xs)] = .ok (.d (.int xs.length)) := rfl
@[simp] theorem e_lenO : gLen [.ol xs] = .ok (.d (.int xs.length)) := rfl
@[simp] theorem e_lenB : gLen [.bl xs] = .ok (.d (.int xs.length)) := rfl
@[simp] theorem e_lenSc (ns : List Int) : gLen [.sc ns] = .ok (.d (.int ns.length)) := by show okI _ = _; simp
@[simp] theorem e_lenS (z : Str) : gLen [.d (.str z)] = if z.length ≤ 1000000 then .ok (.d (.int z.length)) else .no := rfl
@[simp] theorem e_tupT : gTupleC [.d (.tuple xs)] = .ok (.d (.tuple xs)) := rfl
@[simp] theorem e_tupL : gTupleC [.d (.list xs)] = .ok (.d (.tuple xs)) := rfl
@[simp] theorem e_tupO : gTupleC [.ol xs] = .ok (.d (.tuple xs)) := rfl
@[simp] theorem e_tupB : gTupleC [.bl xs] = .ok (.d (.tuple xs)) := rfl
@[simp] theorem e_lisT : gListC [.d (.tuple xs)] = .ok (.ol xs) := rfl
@[simp] theorem e_lisL : gListC [.d (.list xs)] = .ok (.ol xs) := rfl
@[simp] theorem e_lisO : gListC [.ol xs] = .ok (.ol xs) := rfl
@[simp] theorem e_lisB : gListC [.bl xs] = .ok (.ol xs) := rfl
@[simp] theorem e_min2 (a b : Int) : gMin2 [.d (.int a), .d (.int b)] = .ok (.d (.int (if b < a then b else a))) := rfl
@[simp] theorem e_max2 (a b : Int) : gMax2 [.d (.int a), .d (.int b)] = .ok (.d (.int (if b > a then b else a))) := rfl
@[simp] theorem e_any (r : RV) : gAny [r] = (rsO r.qv).bind fun xs => (rsO (boolsD xs)).bind fun bs => okB (bs.any id) := rfl
@[simp] theorem e_all (r : RV) : gAll [r] = (rsO r.qv).bind fun xs => (rsO (boolsD xs)).bind fun bs => okB (bs.all id) := rfl
@[simp] theorem e_sum (r : RV) : gSum [r] = (rsO r.qv).bind fun xs => (rsO (intsD xs)).bind fun bs => okI bs.sum := rfl
@[simp] theorem e_sorted (r : RV) : gSorted [r] = (rsO r.qv).bind fun xs => (rsO (intsD xs)).bind fun ns => .ok (.ol ((isort ns).map .int)) := rfl
@[simp] theorem e_rev (r : RV) : gRev r = (rsO r.qv).bind fun xs => .ok (.ol xs.reverse) := rfl
theorem e_R1 {a : Int} (h : a.natAbs ≤ 1000000) : gR1 [.d (.int a)] = .ok (rngL 0 a.toNat) := if_pos h
theorem e_R1n {n : Nat} (h : n ≤ 1000000) : gR1 [.d (.int n)] = .ok (rngL 0 n) := e_R1 (a := (n : Int)) h
theorem e_R2 {a b : Int} (h : a.natAbs ≤ 1000000) (h2 : b.natAbs ≤ 1000000) : gR2 [.d (.int a), .d (.int b)] = .ok (rngL a (b - a).toNat) := if_pos ⟨h, h2⟩
theorem e_R3 {a b : Int} (h : a.natAbs ≤ 1000000) (h2 : b.natAbs ≤ 1000000) : gR3 [.d (.int a), .d (.int b), .d (.int (-1))] = .ok ((List.range (a - b).toNat).map fun k : Nat => .int (a - (k : Int))) := if_pos ⟨rfl, h, h2⟩
@[simp] theorem e_sl (l h) : cSl fa l h env = (fa env).bind fun r => (l env).bind fun lo => (h env).bind fun hi => gSl r lo hi := rfl
@[simp] theorem e_oN : oN env = .ok none := rfl
@[simp] theorem e_isi (T : String) (r : RV) : gIsi T r = (rsO (r.data.bind tyD)).bind fun t => (rsO (kitB t T)).bind okB := rfl
@[simp] theorem e_lc (src own tg t) : cLc src own tg t fa env = (src env).bind fun xs => if xs.length ≤ 1000000 then (lcF tg t fa (wipeE env own) xs).bind fun ds => .ok (.ol ds) else .no := rfl
@[simp] theorem e_wipe0 : wipeE env [] = env := rfl
@[simp] theorem e_wipe1 (is) : wipeE env (i :: is) = (wipeE env is).set i none := rfl
theorem e_unp (tg) : sUnp tg fa env = (fa env).out env fun r => match r.toD with
  | some x => (match tgE tg x env with | some env' => .nx env' | none => .no)
  | none => .no := rfl
theorem e_app : sApp i fa env = match env[i]? with
  | some (some (.ol xs)) => (fa env).out env fun r => (match r.toD with
    | some d => if xs.length ≤ 1000000 then .nx (env.set i (some (.ol (xs ++ [d])))) else .no
    | none => .no)
  | _ => .no := rfl
theorem e_V : cV i env = match env[i]? with
  | some (some r) => .ok r.bor
  | _ => .no := rfl
theorem e_retV : sRetV i env = match env[i]? with
  | some (some r) => (r.nb).out env .rt
  | _ => .no := rfl
end
/-! ### subscripts -/
theorem atI_lt {α : Type} {xs : List α} {i : Int} (h0 : 0 ≤ i) (h : i < xs.length) : atI xs i = xs[i.toNat]? := by
  unfold atI ixN
  rw [if_pos h0, if_pos h]
  rfl
@[simp] theorem atI_zero {α : Type} (x : α) (xs : List α) : atI (x :: xs) 0 = some x := by
  have h : 0 < (x :: xs).length := by simp
  rw [atI_lt (Int.le_refl 0) (by omega)]
  rfl
theorem rngL_eq (n : Nat) : rngL 0 n = (List.range n).map fun k : Nat => .int (k : Int) := by
  unfold rngL
  congr 1
  funext k
  simp
/-! ### shapes -/
@[simp] theorem sh_int (i : Int) : SeqAt.shaped (.int i) = true := rfl
@[simp] theorem sh_none : SeqAt.shaped .none = true := rfl
@[simp] theorem sh_bool (b : Bool) : SeqAt.shaped (.bool b) = true := rfl
theorem can_ints : ∀ ns : List Int, PyData.canLayAll0 (ns.map .int) = true
  | [] => rfl
  | n :: ns => can_ints ns
theorem dep_ints : ∀ ns : List Int, PyData.depthAll (ns.map .int) = 0
  | [] => rfl
  | n :: ns => by rw [List.map_cons, PyData.depthAll, PyData.depth, dep_ints ns]; rfl
@[simp] theorem sh_tup (ns : List Int) : SeqAt.shaped (.tuple (ns.map .int)) = true := by
  unfold SeqAt.shaped
  rw [PyData.depth, dep_ints, PyData.canLay0, can_ints]
  rfl
@[simp] theorem sh_lst (ns : List Int) : SeqAt.shaped (.list (ns.map .int)) = true := by
  unfold SeqAt.shaped
  rw [PyData.depth, dep_ints, PyData.canLay0, can_ints]
  rfl
@[simp] theorem eqv_int (i j : Int) : PyData.eqv (.int i) (.int j) = decide (i = j) := by
  rw [PyData.eqv]
  by_cases h : i = j <;> simp [h]
theorem eqvAll_ints : ∀ xs ys : List Int, PyData.eqvAll (xs.map .int) (ys.map .int) = decide (xs = ys)
  | [], [] => rfl
  | [], _ :: _ => rfl
  | _ :: _, [] => rfl
  | x :: xs, y :: ys => by
    rw [List.map_cons, List.map_cons, PyData.eqvAll, eqvAll_ints xs ys, eqv_int]
    by_cases h : x = y <;> by_cases h2 : xs = ys <;> simp [h, h2]
@[simp] theorem eqv_tup (xs ys : List Int) : PyData.eqv (.tuple (xs.map .int)) (.tuple (ys.map .int)) = decide (xs = ys) := by rw [PyData.eqv, eqvAll_ints]
@[simp] theorem eqv_lst (xs ys : List Int) : PyData.eqv (.list (xs.map .int)) (.list (ys.map .int)) = decide (xs = ys) := by rw [PyData.eqv, eqvAll_ints]
theorem anyI (ns : List Int) (i : Int) : ((ns.map PyData.int).any fun z => PyData.eqv z (.int i)) = decide (i ∈ ns) := by
  rw [List.any_map]
  induction ns with
  | nil => rfl
  | cons n ns ih =>
    rw [List.any_cons, ih]
    simp only [Function.comp, eqv_int]
    by_cases h : n = i
    · simp [h]
    · by_cases h2 : i ∈ ns <;> simp [h, h2, Ne.symm h]
@[simp] theorem anyI' (ns : List Int) (i : Int) : (ns.any ((fun z => PyData.eqv z (.int i)) ∘ PyData.int)) = decide (i ∈ ns) := by rw [← List.any_map]; exact anyI ns i
end VL

namespace VL
open PySem PySem.Spec PyProof.Rows L2
/-! ## more constructs -/
section
variable {K : PySem.W.Frag} {ca : Nat → Addr}
def gRep (a b : RV) : Rs RV := match b with
  | .d (.int k) => (rsO a.lv).bind fun xs => if k.natAbs ≤ 1000000 ∧ xs.length * k.toNat ≤ 1000000 then .ok (.ol (List.replicate k.toNat xs).flatten) else .no
  | _ => .no
theorem DqA.rep {F : Hp} {ds : List PyData} {vs : List V} (h : DqA K F vs ds) : ∀ k : Nat, DqA K F (List.replicate k vs).flatten (List.replicate k ds).flatten
  | 0 => .nil
  | k + 1 => by
    rw [List.replicate_succ, List.replicate_succ, List.flatten_cons, List.flatten_cons]
    exact h.append (DqA.rep h k)
theorem s_rep : Op2S K ca rRep gRep := by
  intro W σ F0 H0 F H v1 v2 a b Q gr h1 h2 p
  unfold gRep at p
  split at p
  · rename_i k
    cases h2
    cases e : a.lv with
    | none => rw [e] at p; exact p.elim
    | some xs =>
      rw [e] at p
      simp only [rsO_some, Rs.bind_ok] at p
      split at p
      · rename_i hk
        obtain ⟨p1, vs, rfl, a1, q1⟩ := lv_ok gr.cfg.sub h1 e
        refine ⟨p1, k, vs, rfl, rfl, a1, by omega, by omega, ?_, fun l hl => ?_⟩
        · rw [q1.length]; exact Nat.le_of_lt (million hk.2)
        · have g2 := Grow.newO gr.cfg (.lst (List.replicate k.toNat vs).flatten) hl (fun _ z => by cases z)
          exact p _ _ _ (gr.trans g2) ⟨l, _, rfl, same_none gr.hh hl, same_none gr.cfg.sub hl, upd_same, q1.rep k.toNat⟩
      · exact p.elim
  · exact p.elim
end
section
variable {ca : Nat → Addr} {W : WX} {X : Cx} {a b c e : Expr} {es : List Expr} {fa fb fc : VEnv → Rs RV} {pos : Pos} {st : Stmt}
def sNo : VEnv → Out := fun _ => .no
theorem vs_never : VS ca W X st sNo := ⟨_, ps_never, fun _ _ _ _ _ _ _ p => p.elim⟩
/-! ### a list or a tuple walked -/
def iAny (K : PySem.W.Frag) (tl : TE) : TI := fun σ H R => tl σ H fun x H1 => ∃ a, x = .ref a ∧ (((∃ xs, SqL K H1 a xs) ∧ R (Itl K a) H1) ∨ ((∃ xs, SqT K H1 a xs) ∧ R (Itt K a) H1))
theorem pi_any {tg : Expr} {tl : TE} (hl : PE X e tl) : PI X tg e (iAny X.K tl) := by
  refine ⟨fun pns s0 σ H R I hyp => ?_⟩
  refine thn (hl.run pns s0 σ H _ I hyp) fun v s1 ⟨x, H1, I1, r1, a, ex, alt⟩ => ?_
  subst ex
  cases r1
  have fresh : ∀ b ∈ [s1.heap.objs.size], b = s1.heap.objs.size := fun b hb => by simpa using hb
  rcases alt with ⟨⟨xs, hq⟩, q⟩ | ⟨⟨xs, hq⟩, q⟩
  · obtain ⟨its, rv, pl, hz⟩ := I1.list hq
    refine wpAny_pyIter_list pl.isList ⟨s1.heap.objs.size, [s1.heap.objs.size], _, _, H1, rfl, I1.kept (t' := s1.toks) fun _ _ k => Heap.get?_push_of_some _ k, turn_list a _, ⟨_, Heap.get?_push_size _ rfl, rfl, rfl⟩, fun b hb => ?_, q⟩
    have eb := fresh b hb
    subst eb
    exact I1.fpOk (Nat.le_refl _) (I1.hok.fresh (Nat.le_refl _))
  · obtain ⟨its, rv, pl, hz⟩ := I1.tuple hq
    have pt : s1.heap.IsTuple a its.toArray := pl
    refine wpAny_pyIter_tuple pt ⟨s1.heap.objs.size, [s1.heap.objs.size], _, _, H1, rfl, I1.kept (t' := s1.toks) fun _ _ k => Heap.get?_push_of_some _ k, turn_tuple a _, ⟨_, Heap.get?_push_size _ rfl, rfl, rfl⟩, fun b hb => ?_, q⟩
    have eb := fresh b hb
    subst eb
    exact I1.fpOk (Nat.le_refl _) (I1.hok.fresh (Nat.le_refl _))
def gAq : RV → Rs (List PyData)
  | .d (.tuple xs) => .ok xs
  | r => gL r
def gAqb : RV → Rs (List PyData)
  | .d (.tuple xs) => .ok xs
  | r => gLb r
def iA (fe : VEnv → Rs RV) : VEnv → Rs (List PyData) := fun env => (fe env).bind gAq
def iAb (fe : VEnv → Rs RV) : VEnv → Rs (List PyData) := fun env => (fe env).bind gAqb
theorem vi_any {tg : Expr} (h : VE ca W X e fa) : VI ca W X tg e (iA fa) := by
  obtain ⟨t, p, s⟩ := h
  refine ⟨_, pi_any p, fun B F env σ H R st q => ?_⟩
  show t σ H fun x H1 => ∃ a, x = .ref a ∧ (((∃ xs, SqL X.K H1 a xs) ∧ R (Itl X.K a) H1) ∨ ((∃ xs, SqT X.K H1 a xs) ∧ R (Itt X.K a) H1))
  refine seqE (PostI X.K ca W σ F H R) s st q (fun _ _ h => h) (fun h => h) fun r F1 H1 v p1 g1 q1 => ?_
  cases r with
  | d x =>
    cases x with
    | list xs =>
      cases q1 with
      | lst h1 h2 => exact ⟨_, rfl, .inl ⟨⟨_, SqL.of (g1.cfg.sub _ _ h1)⟩, p1 _ F1 H1 _ g1 h2 (jw_list (SqL.of h1))⟩⟩
    | tuple xs =>
      cases q1 with
      | tup h1 h2 => exact ⟨_, rfl, .inr ⟨⟨_, same_seqT g1.cfg.sub h1.1⟩, p1 _ F1 H1 _ g1 h2 (jw_tup h1.1)⟩⟩
    | _ => exact p1.elim
  | ol xs =>
    obtain ⟨p, vs, rfl, n0, f, hp, q2⟩ := q1
    have g2 := g1.freeze n0 f hp
    have s2 : Same F1 (upd F1 p (.lst vs)) := fun b u k => by rw [upd_ne (ne_of_none k f)]; exact k
    exact ⟨p, rfl, .inl ⟨⟨_, SqL.of hp⟩, p1 _ _ H1 vs g2 (DqA.mono s2 _ _ q2) (jw_list (SqL.of upd_same))⟩⟩
  | sc ns =>
    obtain ⟨a, rfl, q2⟩ := q1
    exact ⟨a, rfl, .inl ⟨⟨_, g1.cfg.sub.seq q2⟩, p1 _ F1 H1 _ g1 (DqA.of_ints ns) (jw_list q2)⟩⟩
  | _ => exact p1.elim
theorem vj_any {tg : Expr} (h : VE ca W X e fa) : VJ ca W X tg e (iAb fa) := by
  obtain ⟨t, p, s⟩ := h
  refine ⟨_, pi_any p, fun B F env σ H R st q => ?_⟩
  show t σ H fun x H1 => ∃ a, x = .ref a ∧ (((∃ xs, SqL X.K H1 a xs) ∧ R (Itl X.K a) H1) ∨ ((∃ xs, SqT X.K H1 a xs) ∧ R (Itt X.K a) H1))
  refine seqE (PostJ X.K ca W σ F H R) s st q (fun _ _ h => h) (fun h => h) fun r F1 H1 v p1 g1 q1 => ?_
  cases r with
  | d x =>
    cases x with
    | list xs =>
      cases q1 with
      | lst h1 h2 => exact ⟨_, rfl, .inl ⟨⟨_, SqL.of (g1.cfg.sub _ _ h1)⟩, p1 _ F1 H1 _ g1 h2 (jw_list (SqL.of (g1.cfg.sub _ _ h1)))⟩⟩
    | tuple xs =>
      cases q1 with
      | tup h1 h2 => exact ⟨_, rfl, .inr ⟨⟨_, same_seqT g1.cfg.sub h1.1⟩, p1 _ F1 H1 _ g1 h2 (jw_tup (same_seqT g1.cfg.sub h1.1))⟩⟩
    | _ => exact p1.elim
  | ol xs =>
    obtain ⟨p, vs, rfl, n0, f, hp, q2⟩ := q1
    exact ⟨p, rfl, .inl ⟨⟨_, SqL.of hp⟩, p1 _ _ H1 vs g1 q2 (jw_list (SqL.of hp))⟩⟩
  | bl xs =>
    obtain ⟨p, vs, rfl, hp, q2⟩ := q1
    exact ⟨p, rfl, .inl ⟨⟨_, SqL.of hp⟩, p1 _ _ H1 vs g1 q2 (jw_list (SqL.of hp))⟩⟩
  | sc ns =>
    obtain ⟨a, rfl, q2⟩ := q1
    exact ⟨a, rfl, .inl ⟨⟨_, g1.cfg.sub.seq q2⟩, p1 _ F1 H1 _ g1 (DqA.of_ints ns) (jw_list (g1.cfg.sub.seq q2))⟩⟩
  | _ => exact p1.elim
@[simp] theorem e_iA (env : VEnv) : iA fa env = (fa env).bind gAq := rfl
@[simp] theorem e_iAb (env : VEnv) : iAb fa env = (fa env).bind gAqb := rfl
@[simp] theorem e_gAq1 (xs) : gAq (.d (.tuple xs)) = .ok xs := rfl
@[simp] theorem e_gAq2 (xs) : gAq (.d (.list xs)) = .ok xs := rfl
@[simp] theorem e_gAq3 (xs) : gAq (.ol xs) = .ok xs := rfl
@[simp] theorem e_gAqb1 (xs) : gAqb (.d (.tuple xs)) = .ok xs := rfl
@[simp] theorem e_gAqb2 (xs) : gAqb (.d (.list xs)) = .ok xs := rfl
@[simp] theorem e_gAqb3 (xs) : gAqb (.ol xs) = .ok xs := rfl
@[simp] theorem e_gAqb4 (xs) : gAqb (.bl xs) = .ok xs := rfl
@[simp] theorem e_no (env : VEnv) : sNo env = .no := rfl
theorem e_rep {xs : List PyData} {k : Int} {r : RV} (h : r.lv = some xs) (h1 : k.natAbs ≤ 1000000) (h2 : xs.length * k.toNat ≤ 1000000) : gRep r (.d (.int k)) = .ok (.ol (List.replicate k.toNat xs).flatten) := by
  show (rsO r.lv).bind _ = _
  rw [h]
  simp only [rsO_some, Rs.bind_ok]
  rw [if_pos ⟨h1, h2⟩]
theorem e_store (i : Nat) (fi fe : VEnv → Rs RV) (env : VEnv) : sStore i fi fe env = match env[i]? with
  | some (some (.ol xs)) => (fe env).out env fun r => (fi env).out env fun ix => (match r.toD, ix with
    | some d, .d (.int k) => (match ixN xs.length k with
      | some j => .nx (env.set i (some (.ol (xs.set j d))))
      | none => .no)
    | _, _ => .no)
  | _ => .no := rfl
/-! ### a < b < c -/
def cChI (g g' : RV → RV → Rs RV) (fc : VEnv → Rs RV) (env : VEnv) : RV → RV → Rs RV
  | .d (.int m), .d (.int n) => (g (.d (.int m)) (.d (.int n))).bind fun r => (asB r).bind fun k => if k = true then (fc env).bind fun z => g' (.d (.int n)) z else .ok (.d (.bool false))
  | _, _ => .no
def cCh (g g' : RV → RV → Rs RV) (fa fb fc : VEnv → Rs RV) : VEnv → Rs RV := fun env => (fa env).bind fun x => (fb env).bind fun y => cChI g g' fc env x y
@[simp] theorem e_cCh (g g') (env : VEnv) : cCh g g' fa fb fc env = (fa env).bind fun x => (fb env).bind fun y => cChI g g' fc env x y := rfl
@[simp] theorem e_cChI (g g') (env : VEnv) (m n : Int) : cChI g g' fc env (.d (.int m)) (.d (.int n)) = (g (.d (.int m)) (.d (.int n))).bind fun r => (asB r).bind fun k => if k = true then (fc env).bind fun z => g' (.d (.int n)) z else .ok (.d (.bool false)) := rfl
theorem snd_chain {K : PySem.W.Frag} {r r' : R2} {g g' : RV → RV → Rs RV} {ta tb tc : TE} (hr : Op2S K ca r g) (hr' : Op2S K ca r' g') (sa : SndE K ca W ta fa) (sb : SndE K ca W tb fb) (sc : SndE K ca W tc fc) : SndE K ca W (tChain r r' ta tb tc) (cCh g g' fa fb fc) := by
  intro B F env σ H Q st p
  show ta σ H fun x H1 => tb σ H1 fun y H2 => r x y H2 fun z H3 => ∃ k, z = .bl k ∧ (if k = true then tc σ H3 fun w' H4 => r' y w' H4 Q else Q (.bl false) H3)
  refine seqE (PostE K ca W σ F H Q) sa st p (fun _ _ h => h) (fun h => h) fun x F1 H1 v1 p1 g1 q1 => ?_
  refine seqE (PostE K ca W σ F H Q) sb (st.grow g1) p1 (fun _ _ h => PostX.mono g1 h) (fun h => h) fun y F2 H2 v2 p2 g2 q2 => ?_
  have g02 := g1.trans g2
  unfold cChI at p2
  split at p2
  · rename_i m n
    cases q1
    cases q2
    refine hr W σ F2 H2 F2 H2 _ _ (.d (.int m)) (.d (.int n)) _ (Grow.refl g2.cfg) (.int _) (.int _) ?_
    cases e : g (.d (.int m)) (.d (.int n)) with
    | ex c fs => rw [e] at p2; exact PostX.mono g02 p2
    | no => rw [e] at p2; exact p2
    | ok z =>
      rw [e] at p2
      simp only [Rs.bind_ok] at p2
      intro F3 H3 v3 g3 q3
      have g03 := g02.trans g3
      unfold asB at p2
      split at p2
      · rename_i k
        cases q3
        refine ⟨k, rfl, ?_⟩
        cases k with
        | false =>
          rw [if_neg Bool.false_ne_true]
          simp only [Rs.bind_ok, Bool.false_ne_true, if_false] at p2
          exact p2 F3 H3 _ g03 (.bl _)
        | true =>
          rw [if_pos rfl]
          simp only [Rs.bind_ok, if_true] at p2
          refine seqE (PostE K ca W σ F H Q) sc (st.grow g03) p2 (fun _ _ h => PostX.mono g03 h) (fun h => h) fun w F4 H4 v4 p4 g4 q4 => ?_
          exact hr' W σ F H F4 H4 _ v4 (.d (.int n)) w Q (g03.trans g4) (.int _) (q4.older g03.hh) p4
      · exact p2.elim
  · exact p2.elim
theorem ve_chain {op op' : CmpOp} {r r' : R2} {g g' : RV → RV → Rs RV} (ho : OpR X (compareOp op) r) (hr : Op2S X.K ca r g) (ho' : OpR X (compareOp op') r') (hr' : Op2S X.K ca r' g') (ha : VE ca W X a fa) (hb : VE ca W X b fb) (hc : VE ca W X c fc)
    (hm : lastMarks [op, op'] [b, c] = false := by with_unfolding_all rfl) : VE ca W X (.Compare a [op, op'] [b, c] pos) (cCh g g' fa fb fc) := by
  obtain ⟨ta, pa, sa⟩ := ha
  obtain ⟨tb, pb, sb⟩ := hb
  obtain ⟨tc, pc, sc⟩ := hc
  exact ⟨_, pe_chain ho ho' pa pb pc hm, snd_chain hr hr' sa sb sc⟩
theorem vt_chain {op op' : CmpOp} {r r' : R2} {g g' : RV → RV → Rs RV} (ho : OpR X (compareOp op) r) (hr : Op2S X.K ca r g) (ho' : OpR X (compareOp op') r') (hr' : Op2S X.K ca r' g') (ha : VE ca W X a fa) (hb : VE ca W X b fb) (hc : VE ca W X c fc)
    (hm : lastMarks [op, op'] [b, c] = false := by with_unfolding_all rfl) : VT ca W X (.Compare a [op, op'] [b, c] pos) (cB (cCh g g' fa fb fc)) := by
  obtain ⟨ta, pa, sa⟩ := ha
  obtain ⟨tb, pb, sb⟩ := hb
  obtain ⟨tc, pc, sc⟩ := hc
  exact ⟨_, pt_chain ho ho' pa pb pc hm, snd_test (snd_chain hr hr' sa sb sc)⟩
end
end VL

namespace VL
open PySem PySem.Spec PyProof.Rows L2
theorem e_fzE (i : Nat) (env : VEnv) : fzE i env = match env[i]? with
  | some (some (.ol xs)) => env.set i (some (.d (.list xs)))
  | _ => env := rfl
theorem tyD_list (xs) : tyD (.list xs) = some "list" := rfl
theorem tyD_tuple (xs) : tyD (.tuple xs) = some "tuple" := rfl
theorem tyD_int (a) : tyD (.int a) = some "int" := rfl
theorem kitB_ll : kitB "list" "list" = some true := by decide +kernel
theorem kitB_tt : kitB "tuple" "tuple" = some true := by decide +kernel
theorem kitB_lt : kitB "list" "tuple" = some false := by decide +kernel
theorem kitB_tl : kitB "tuple" "list" = some false := by decide +kernel
theorem kitB_ii : kitB "int" "int" = some true := by decide +kernel

theorem atI_cons {α : Type} (xs : List α) (n : Nat) (h : n < xs.length) : atI xs (n : Int) = xs[n]? := by
  rw [atI_lt (by omega) (by omega)]; rfl
theorem e_at1 {α : Type} (x0 x1 : α) (xs : List α) : atI (x0 :: x1 :: xs) 1 = some x1 := atI_cons _ 1 (by simp)
theorem e_at2 {α : Type} (x0 x1 x2 : α) (xs : List α) : atI (x0 :: x1 :: x2 :: xs) 2 = some x2 := atI_cons _ 2 (by simp)
theorem e_at3 {α : Type} (x0 x1 x2 x3 : α) (xs : List α) : atI (x0 :: x1 :: x2 :: x3 :: xs) 3 = some x3 := atI_cons _ 3 (by simp)
theorem e_at4 {α : Type} (x0 x1 x2 x3 x4 : α) (xs : List α) : atI (x0 :: x1 :: x2 :: x3 :: x4 :: xs) 4 = some x4 := atI_cons _ 4 (by simp)
theorem e_at5 {α : Type} (x0 x1 x2 x3 x4 x5 : α) (xs : List α) : atI (x0 :: x1 :: x2 :: x3 :: x4 :: x5 :: xs) 5 = some x5 := atI_cons _ 5 (by simp)
theorem e_at6 {α : Type} (x0 x1 x2 x3 x4 x5 x6 : α) (xs : List α) : atI (x0 :: x1 :: x2 :: x3 :: x4 :: x5 :: x6 :: xs) 6 = some x6 := atI_cons _ 6 (by simp)
theorem e_at7 {α : Type} (x0 x1 x2 x3 x4 x5 x6 x7 : α) (xs : List α) : atI (x0 :: x1 :: x2 :: x3 :: x4 :: x5 :: x6 :: x7 :: xs) 7 = some x7 := atI_cons _ 7 (by simp)
theorem e_at8 {α : Type} (x0 x1 x2 x3 x4 x5 x6 x7 x8 : α) (xs : List α) : atI (x0 :: x1 :: x2 :: x3 :: x4 :: x5 :: x6 :: x7 :: x8 :: xs) 8 = some x8 := atI_cons _ 8 (by simp)
theorem e_at9 {α : Type} (x0 x1 x2 x3 x4 x5 x6 x7 x8 x9 : α) (xs : List α) : atI (x0 :: x1 :: x2 :: x3 :: x4 :: x5 :: x6 :: x7 :: x8 :: x9 :: xs) 9 = some x9 := atI_cons _ 9 (by simp)
theorem e_atm {α : Type} (xs : List α) (x : α) : atI (xs ++ [x]) (-1) = some x := by
  have h : ixN (xs ++ [x]).length (-1) = some xs.length := by
    unfold ixN
    rw [if_neg (by decide), if_pos (by simp; omega)]
    congr 1
    simp
    omega
  unfold atI
  rw [h]
  simp
theorem eqv_bool (a b : Bool) : PyData.eqv (.bool a) (.bool b) = (a == b) := by cases a <;> cases b <;> rfl
theorem eqv_none : PyData.eqv .none .none = true := rfl
theorem tyD_bool (a) : tyD (.bool a) = some "bool" := rfl
theorem tyD_str (a) : tyD (.str a) = some "str" := rfl
theorem tyD_none : tyD .none = some "NoneType" := rfl
theorem kitB_bb : kitB "bool" "bool" = some true := by decide +kernel
theorem kitB_nb : kitB "NoneType" "bool" = some false := by decide +kernel
theorem kitB_bi : kitB "bool" "int" = some true := by decide +kernel
theorem kitB_ib : kitB "int" "bool" = some false := by decide +kernel
theorem kitB_nl : kitB "NoneType" "list" = some false := by decide +kernel
theorem kitB_nt : kitB "NoneType" "tuple" = some false := by decide +kernel
theorem e_andB (a b : Bool) : (if a = true then Rs.ok (RV.d (.bool b)) else Rs.ok (RV.d (.bool false))) = .ok (.d (.bool (a && b))) := by cases a <;> rfl
theorem e_orB (a b : Bool) : (if a = true then Rs.ok (RV.d (.bool true)) else Rs.ok (RV.d (.bool b))) = .ok (.d (.bool (a || b))) := by cases a <;> rfl
theorem e_andR (a b : Bool) : (if a = true then Rs.ok b else Rs.ok false) = .ok (a && b) := by cases a <;> rfl
theorem e_orR (a b : Bool) : (if a = true then Rs.ok true else Rs.ok b) = .ok (a || b) := by cases a <;> rfl

end VL

namespace VL
open PySem PySem.Spec PyProof.Rows L2
/-! ## defs with keyword-only parameters -/
section
variable {ca : Nat → Addr} {W : WX} {X : Cx} {e : Expr} {es : List Expr} {pos kpos : Pos} {nm : Option Str} {kws : List Keyword}
theorem fnD_ok {P : Program} {w : World} {K : PySem.W.Frag} {mg : Str → Option Value} {base : Heap} {x qual : Str} {sd : Stmt} {dl : List (Str × V)} {fA : Addr} {fd : FuncData} {N ps : List Str} {k : Nat} {body : VEnv → Out} (F : FunD K x qual (defArgs sd) (defBody sd) (defScope sd) [] dl fA fd) (S : FnScope N ps (defScope sd))
    (hb : ∀ (cdv : Value) (A : Around) (outer : List PySem.Env) (s : Shared) (H : Hp) (E : XK), Room k (A.deeper (envOfC qual (defScope sd) s.heap.objs.size fA cdv)) → Takes (cxOf (L2.CX P w) P w K mg base N qual (defScope sd) fA cdv A outer s H E) (fun cls dx _ H' => E cls dx H') →
      PassesOwn (model P w) (A.deeper (envOfC qual (defScope sd) s.heap.objs.size fA cdv)) (envOfC qual (defScope sd) s.heap.objs.size fA cdv) (cxOf (L2.CX P w) P w K mg base N qual (defScope sd) fA cdv A outer s H E).xe →
      VSs ca (fun cls dx _ H' => E cls dx H') (cxOf (L2.CX P w) P w K mg base N qual (defScope sd) fA cdv A outer s H E) (defBody sd) body) : FnOk P w K mg base (L2.CX P w) (k + 1) fA fd ps (spV K ca ps.length (fnD N.length body)) := by
  refine F.ok S (fun vs H Q E h => h.1) (fun cdv A outer s H vs Q E hr h => ?_)
  obtain ⟨hl, G, rs, c, pr, q⟩ := h
  obtain ⟨t, p, sn⟩ := hb cdv A outer s H E hr (takes_of rfl rfl rfl rfl) (passes_of rfl)
  refine ⟨t, p, sn ⟨G, H⟩ G _ _ H _ (start_ok N c pr) ?_⟩
  unfold fnD at q
  generalize hB : body (rs.map some ++ List.replicate (N.length - rs.length) none) = o at q ⊢
  cases o with
  | nx env => exact fun F' σ' H' s st => q F' H' .non st.gr .non
  | rt r => exact fun F' H' v g r => q F' H' v g r
  | ex c fs env => exact fun F' σ' H' cls dx s st x => q F' H' cls dx st.gr x
  | bk env => exact q.elim
  | ct env => exact q.elim
  | no => exact q.elim
theorem paired_app {α β : Type} {R : α → β → Prop} : ∀ {as : List α} {bs : List β} {cs : List α} {ds : List β}, Paired R as bs → Paired R cs ds → Paired R (as ++ cs) (bs ++ ds)
  | _, _, _, _, .nil, h => h
  | _, _, _, _, .cons a b, h => .cons a (paired_app b h)
theorem paired_D {K : PySem.W.Frag} {H0 F H : Hp} : ∀ {vs : List V} {ds : List PyData}, DqA K F vs ds → Paired (fun v r => RVok K H0 F H v r) vs (ds.map RV.d)
  | _, _, .nil => .nil
  | _, _, .cons a b => .cons a (paired_D b)
def KDs (K : PySem.W.Frag) (D : Addr) (l : List (Str × V)) : Prop := ∀ q ∈ l, ∃ u, PySem.W.nsIn K D q.1 = some (some u) ∧ RelV q.2 u
theorem kd_nil {K : PySem.W.Frag} {D : Addr} : KDs K D [] := fun _ h => absurd h (by simp)
theorem kd_cons {K : PySem.W.Frag} {D : Addr} {x : Str} {v : V} {u : Value} {l : List (Str × V)} (h : PySem.W.nsIn K D x = some (some u)) (r : RelV v u) (t : KDs K D l) : KDs K D ((x, v) :: l) := fun q hq => by
  rcases List.mem_cons.mp hq with rfl | hq
  · exact ⟨u, h, r⟩
  · exact t q hq
theorem fund_mk {K : PySem.W.Frag} {x qual : Str} {params : Arguments} {body : List Stmt} {scope : Scope} {f D : Addr} {dl : List (Str × V)} {oc doc pm cdv ct : Value} {od an : Option Addr} {osl : Array (Option Value)}
    (l : K.lookup f = some ⟨oc, od, .func (PySem.W.fnOf x qual params body scope .none (.ref D) doc pm an cdv ct), osl⟩) (c : PySem.W.codeIn K cdv qual = true) (k : PySem.W.keepIn K (.ref f) = true) (h : KDs K D dl) : FunD K x qual params body scope [] dl f (PySem.W.fnOf x qual params body scope .none (.ref D) doc pm an cdv ct) :=
  ⟨⟨_, _, _, _, _, _, _, _, _, _, rfl, l, c, .inl ⟨rfl, rfl⟩, .inr ⟨D, rfl, h⟩⟩, k⟩
/-- what is written for the values that lack: data that stands in K -/
def Still (K : PySem.W.Frag) (dvs : List V) (dds : List PyData) : Prop := ∀ F, DqA K F dvs dds
/-- a call where all keyword-only values lack -/
def DBn (K : PySem.W.Frag) (fd : FuncData) (ps : List Str) (dds : List PyData) : Prop := ∃ dvs, (∃ ds, Vals dvs ds ∧ Binds K fd ps ds) ∧ Still K dvs dds
/-- a call with n positional values and the keywords ks; dds: the data that lacks -/
def KDB (K : PySem.W.Frag) (fd : FuncData) (ps : List Str) (n : Nat) (ks : List Str) (dds : List PyData) : Prop := ∃ mz, (∃ mv, KBn K fd ps n ks (fun us ws => us ++ (ws ++ mv)) (fun vs zs => vs ++ (zs ++ mz))) ∧ Still K mz dds
/-- the values that defaults may be -/
theorem still_nil {K : PySem.W.Frag} : Still K [] [] := fun _ => .nil
theorem still_cons {K : PySem.W.Frag} {v : V} {d : PyData} {vs : List V} {ds : List PyData} (h : ∀ F, Dq K F v d) (t : Still K vs ds) : Still K (v :: vs) (d :: ds) := fun F => .cons (h F) (t F)
theorem still_tup0 {K : PySem.W.Frag} {T : Addr} {n : Nat} {sl : Array (Option Value)} (l : K.lookup T = some ⟨.type "tuple", none, .seq #[] n, sl⟩) (F : Hp) : Dq K F (.ref T) (.tuple []) := .tup ⟨.inr ⟨_, _, _, l, rfl, rfl, Nat.zero_le _, .nil⟩, .inr ⟨_, l, rfl⟩⟩ .nil
/-- f(e, ..) where keyword-only values lack -/
theorem ve_callD {fA : Addr} {fd : FuncData} {ps : List Str} {x : Str} {p : Pos} {k n m : Nat} {dds : List PyData} {G : List RV → Rs RV} {f : VEnv → Rs (List RV)} (Fo : FnOk X.prog X.w X.K X.mg X.base (L2.CX X.prog X.w) k fA fd ps (spV X.K ca n G)) (hr : Room k X.A) (hg : Gl X x) (hm : X.mg x = some (.ref fA)) (hk : PySem.W.keepIn X.K (.ref fA) = true) (hb : DBn X.K fd ps dds) (tk : Takes X W)
    (ha : VA ca W X (e :: es) f) (hn : m + dds.length = n := by rfl) (hdb : (x == ("__debug__" : Str)) = false := by decide) (he : starEach (e :: es) X.env = (false, eval e X.env) :: starEach es X.env := by rfl) (hpl : (backTo pos (starEach es X.env)).any (·.1) = false := by rfl) :
    VE ca W X (.Call (.Name x p) (e :: es) [] pos) (cA (fun rs => if rs.length = m then G (rs.map RV.arg ++ dds.map RV.d) else .no) f) := by
  obtain ⟨t, pa, sa⟩ := ha
  obtain ⟨dvs, ⟨ds, hd, hb⟩, hS⟩ := hb
  refine ⟨_, pe_callSD Fo hr hg hm hk hb hd (fun σ => passAt tk σ) pa hdb he hpl, fun B F env σ H Q st q => ?_⟩
  show t σ H fun vs H1 => spV X.K ca n G (vs ++ dvs) H1 Q (WE W σ)
  refine seqA (PostE X.K ca W σ F H Q) sa st q (fun _ _ h => h) (fun h => h) fun rs F1 H1 vs p1 g1 q1 => ?_
  split at p1
  · rename_i hl
    obtain ⟨F2, g2, s2, q2⟩ := args_go g1 (Same.refl _) q1
    have q3 : Paired (fun v r => RVok X.K H1 F2 H1 v r) (vs ++ dvs) (rs.map RV.arg ++ dds.map RV.d) := paired_app q2 (paired_D (hS F2))
    refine ⟨by rw [Paired.length q3, List.length_append, List.length_map, List.length_map, hl, hn], F2, _, g2.cfg, q3, ?_⟩
    cases e1 : G (rs.map RV.arg ++ dds.map RV.d) with
    | ok r => rw [e1] at p1; exact fun G' H' v gg rr => p1 G' H' v (g2.trans gg) (rr.older g2.hh)
    | ex c fs => rw [e1] at p1; exact fun G' H' cls dx gg x => p1 G' H' cls dx (g2.trans gg) x
    | no => rw [e1] at p1; exact p1
  · exact p1.elim
/-! ### f(e, .., k = v, ..) -/
/-- the keywords' values -/
def VK1 (ca : Nat → Addr) (W : WX) (X : Cx) (kws : List Keyword) (f : VEnv → Rs (List RV)) : Prop := ∃ t, PK X kws t ∧ SndA X.K ca W t f
theorem vk_nil : VK1 ca W X [] aN := ⟨_, pk_nil, fun _ _ _ _ _ _ st p => p _ _ _ (Grow.refl st.cfg) .nil⟩
theorem vk_cons {f : VEnv → Rs RV} {g : VEnv → Rs (List RV)} (he : VE ca W X e f) (hr : VK1 ca W X kws g) : VK1 ca W X (⟨nm, e, kpos⟩ :: kws) (aC f g) := by
  obtain ⟨te, pe, se⟩ := he
  obtain ⟨tr, pr, sr⟩ := hr
  refine ⟨_, pk_cons pe pr, fun B F env σ H Q st p => ?_⟩
  show te σ H fun x H1 => tr σ H1 fun xs H2 => Q (x :: xs) H2
  refine seqE (PostA X.K ca W σ F H Q) se st p (fun _ _ h => h) (fun h => h) fun x F1 H1 v1 p1 g1 q1 => ?_
  refine seqA (PostA X.K ca W σ F H Q) sr (st.grow g1) p1 (fun _ _ h => PostX.mono g1 h) (fun h => h) fun xs F2 H2 vs p2 g2 q2 => ?_
  exact p2 F2 H2 (v1 :: vs) (g1.trans g2) (.cons (q1.grow g2) (paired_older g1.hh q2))
def tCallKW (n m : Nat) (sp : Sp) (mz : List V) (W : WX) (t tk : TA) : TE := fun σ H Q => t σ H fun vs H1 => tk σ H1 fun zs H2 => vs.length = n ∧ zs.length = m ∧ sp (vs ++ (zs ++ mz)) H2 Q (WE W σ)
theorem pe_callKW {CX : CXT} {k n : Nat} {f : Addr} {fd : FuncData} {ps ks : List Str} {sp : Sp} {x : Str} {p : Pos} {mv : List Value} {mz : List V} {t tk : TA} (F : FnOk X.prog X.w X.K X.mg X.base CX k f fd ps sp) (hr : Room k X.A) (hg : Gl X x) (hm : X.mg x = some (.ref f)) (hk : PySem.W.keepIn X.K (.ref f) = true)
    (hb : KBn X.K fd ps n ks (fun us ws => us ++ (ws ++ mv)) (fun vs zs => vs ++ (zs ++ mz))) (hx : ∀ σ, PassesAt CX X σ (WE W σ)) (ha : PA X (e :: es) t) (hkw : PK X kws tk) (hall : (backToKw pos (keywordEach kws X.env)).all (·.1.isSome) = true) (hks : (backToKw pos (keywordEach kws X.env)).filterMap (·.1) = ks)
    (hdb : (x == ("__debug__" : Str)) = false) (he : starEach (e :: es) X.env = (false, eval e X.env) :: starEach es X.env)
    (hpl : ((backTo pos (starEach (e :: es) X.env)).any (·.1) || (backToKw pos (keywordEach kws X.env)).any (·.1.isNone)) = false) : PE X (.Call (.Name x p) (e :: es) kws pos) (tCallKW n ks.length sp mz W t tk) := by
  refine ⟨fun pins s σ H Q I h => wpAny_Call_Name_kw (ld_glob I hg hm ?_ hdb)⟩
  refine PySem.W.callWith_KW (h₀ := X.base) I.ok.mod.kin hk hall (thn (ha.run pos pins s σ H _ I h) fun us s1 ⟨vs, H1, I1, r, q⟩ => ?_) hpl he
  refine thn (hkw.run pos pins s1 σ H1 _ I1 q) fun ws s2 ⟨zs, H2, I2, rz, l1, l2, q2⟩ => ⟨I2.kIn, ?_⟩
  rw [hks]
  refine wpAny_call (codeAny_mono (F.run X.A X.stack s2 H2 ⟨us, ks.zip ws⟩ (us ++ (ws ++ mv)) (vs ++ (zs ++ mz)) Q (WE W σ) hr I2.env0 (hb.to s2 us ws I2.kIn (r.length.symm.trans l1) (rz.length.symm.trans l2)) (hb.rel r rz) q2) fun r s' hq => ?_)
  cases r with
  | error ev => exact hx σ pins H2 s2 ev s' I2 hq
  | ok fl =>
    cases fl with
    | ret u => exact I2.after hq
    | next => exact hq.elim
    | brk => exact hq.elim
    | cont => exact hq.elim
/-- positional values, then the keywords', then those that lack -/
def cAK (h : List RV → List RV → Rs RV) (f g : VEnv → Rs (List RV)) : VEnv → Rs RV := fun env => (f env).bind fun rs => (g env).bind fun zs => h rs zs
theorem ve_callK {fA : Addr} {fd : FuncData} {ps ks : List Str} {x : Str} {p : Pos} {k n m : Nat} {dds : List PyData} {G : List RV → Rs RV} {f g : VEnv → Rs (List RV)} (Fo : FnOk X.prog X.w X.K X.mg X.base (L2.CX X.prog X.w) k fA fd ps (spV X.K ca n G)) (hr : Room k X.A) (hg : Gl X x) (hm : X.mg x = some (.ref fA)) (hk : PySem.W.keepIn X.K (.ref fA) = true)
    (hb : KDB X.K fd ps m ks dds) (tk : Takes X W)
    (ha : VA ca W X (e :: es) f) (hkw : VK1 ca W X kws g) (hn : m + (ks.length + dds.length) = n := by rfl) (hall : (backToKw pos (keywordEach kws X.env)).all (·.1.isSome) = true := by rfl) (hks : (backToKw pos (keywordEach kws X.env)).filterMap (·.1) = ks := by rfl)
    (hdb : (x == ("__debug__" : Str)) = false := by decide) (he : starEach (e :: es) X.env = (false, eval e X.env) :: starEach es X.env := by rfl)
    (hpl : ((backTo pos (starEach (e :: es) X.env)).any (·.1) || (backToKw pos (keywordEach kws X.env)).any (·.1.isNone)) = false := by rfl) :
    VE ca W X (.Call (.Name x p) (e :: es) kws pos) (cAK (fun rs zs => if rs.length = m ∧ zs.length = ks.length then G (rs.map RV.arg ++ (zs.map RV.arg ++ dds.map RV.d)) else .no) f g) := by
  obtain ⟨t, pa, sa⟩ := ha
  obtain ⟨t2, pk, sk⟩ := hkw
  obtain ⟨mz, ⟨mv, hb⟩, hS⟩ := hb
  refine ⟨_, pe_callKW Fo hr hg hm hk hb (fun σ => passAt tk σ) pa pk hall hks hdb he hpl, fun B F env σ H Q st q => ?_⟩
  show t σ H fun vs H1 => t2 σ H1 fun zs H2 => vs.length = m ∧ zs.length = ks.length ∧ spV X.K ca n G (vs ++ (zs ++ mz)) H2 Q (WE W σ)
  refine seqA (PostE X.K ca W σ F H Q) sa st q (fun _ _ h => h) (fun h => h) fun rs F1 H1 vs p1 g1 q1 => ?_
  refine seqA (PostE X.K ca W σ F H Q) sk (st.grow g1) p1 (fun _ _ h => PostX.mono g1 h) (fun h => h) fun zs F2 H2 ws p2 g2 q2 => ?_
  simp only at p2
  split at p2
  · rename_i hl
    have q1' : Paired (fun v r => RVok X.K H F2 H2 v r) vs rs := paired_grow g2 (paired_older (Same.refl _) q1)
    have q2' : Paired (fun v r => RVok X.K H F2 H2 v r) ws zs := paired_older g1.hh q2
    obtain ⟨F3, g3, s3, q3⟩ := args_go (g1.trans g2) (Same.refl _) (paired_app q1' q2')
    rw [List.map_append] at q3
    have q4 : Paired (fun v r => RVok X.K H2 F3 H2 v r) (vs ++ (ws ++ mz)) (rs.map RV.arg ++ (zs.map RV.arg ++ dds.map RV.d)) := by
      rw [← List.append_assoc, ← List.append_assoc]
      exact paired_app q3 (paired_D (hS F3))
    have l1 : vs.length = m := by rw [Paired.length q1, hl.1]
    have l2 : ws.length = ks.length := by rw [Paired.length q2, hl.2]
    refine ⟨l1, l2, by rw [Paired.length q4, List.length_append, List.length_append, List.length_map, List.length_map, List.length_map, hl.1, hl.2, hn], F3, _, g3.cfg, q4, ?_⟩
    cases e1 : G (rs.map RV.arg ++ (zs.map RV.arg ++ dds.map RV.d)) with
    | ok r => rw [e1] at p2; exact fun G' H' v gg rr => p2 G' H' v (g3.trans gg) (rr.older g3.hh)
    | ex c fs => rw [e1] at p2; exact fun G' H' cls dx gg x => p2 G' H' cls dx (g3.trans gg) x
    | no => rw [e1] at p2; exact p2
  · exact p2.elim
@[simp] theorem e_cAK (h) (f g : VEnv → Rs (List RV)) (env : VEnv) : cAK h f g env = (f env).bind fun rs => (g env).bind fun zs => h rs zs := rfl
end
end VL

namespace VL
open PySem PySem.Spec PyProof.Rows L2

/-! ## dicts whose keys are tuples of ints: the machine's side -/
abbrev tk (P : Program) (w : World) : HeapKind P w (List Int) := tupleKind (intKind P w)
section
variable {X : Cx} {pins : List (Addr × Obj)} {σ : L2.St} {H : Hp} {s : Shared} {a b p d : Addr} {ks : List Int} {xs : List (List Int × Addr × Value)} {n : Nat} {A : Around} {E : Value → Shared → Prop}
theorem items_ints {P : Program} {w : World} : ∀ {ks : List Int} {us : List Value}, Vals (ks.map V.int) us → ItemsAre (intKind P w) ks us
  | [], _, r => by rw [List.map_nil] at r; cases r; exact .nil
  | k :: ks, _, r => by
    rw [List.map_cons] at r
    cases r with
    | cons h t => obtain ⟨t1, rfl⟩ := h; exact .cons (by show Value.isInt k (.int k t1) = true; simp [Value.isInt]) (items_ints t)
theorem key_is (I : Inv X pins σ H s) (h : SqT X.K H b (ks.map V.int)) : (tk X.prog X.w).is s.heap ks b := by
  obtain ⟨its, r, ⟨o, ho, hc, n, hd⟩, _⟩ := I.tuple h
  exact ⟨o, its.toArray, n, ho, hc, hd, by simpa using items_ints r⟩
/-- all keys stand -/
def KeysIn (K : PySem.W.Frag) (H : Hp) (xs : List (List Int × Addr × Value)) : Prop := ∀ x ∈ xs, SqT K H x.2.1 (x.1.map V.int)
theorem dto_ok (I : Inv X pins σ H s) (e : H p = some (DTO p (n, xs))) (k : KeysIn X.K H xs) : s.heap.DictOfH (tk X.prog X.w) p xs ∧ xs.length ≤ sizeLine ∧ (p == sysModules) = false := by
  obtain ⟨⟨o, es, h1, h2, h3, h4, h5, h6, h7⟩, _⟩ := (show ObjOk X.prog X.w H s.heap p (.ext (DTOk p (n, xs))) from I.hok p _ e)
  exact ⟨⟨o, es, n, h1, h2, h3, h4, fun x hx => key_is I (k x hx), h5⟩, h6, h7⟩
theorem dto_new {P : Program} {w : World} {h : Heap} (dd : h.DictOfH (tk P w) p xs) (z : xs.length ≤ sizeLine) (hd : (p == sysModules) = false) : ∃ n, ∀ H, ObjOk P w H h p (DTO p (n, xs)) := by
  obtain ⟨o, es, ep, h1, h2, h3, h4, _, h5⟩ := dd
  refine ⟨ep, fun H => ⟨⟨o, es, h1, h2, h3, h4, h5, z, hd⟩, ⟨o, h1⟩, fun k1 k2 q k => ?_⟩⟩
  obtain ⟨o, es, h1, r⟩ := q
  exact ⟨o, es, k _ h1, r⟩
theorem storedH_len (xs : List (List Int × Addr × Value)) (k : List Int) (a : Addr) (v : Value) : (storedH xs k a v).length ≤ xs.length + 1 := by
  unfold storedH
  split <;> simp
/-- d[k] -/
abbrev rIxDT (K : PySem.W.Frag) : R2 := fun x y H Q => ∃ p b n xs ks q v, x = .ref p ∧ y = .ref b ∧ H p = some (DTO p (n, xs)) ∧ KeysIn K H xs ∧ SqT K H b (ks.map V.int) ∧ atKey xs ks = some q ∧ RelV v q.2 ∧ Q v H
theorem ix_dt (hu : X.A.units + 1 < cLine) : IxR X (rIxDT X.K) := by
  intro value slice pins s σ H x y v u Q I rx ry h hs
  obtain ⟨p, b, n, xs, ks, q, z, rfl, rfl, e, kk, hk, hq, rz, fin⟩ := h
  cases rx; cases ry
  obtain ⟨dd, z1, z2⟩ := dto_ok I e kk
  unfold subscriptTail
  refine wpAny_bind ?_
  rw [getitemInPython_of_ne dd.typeIs.not_modules]
  refine wpAny_bind (wpAny_specialOf dd.typeIs PySem.F.slot_dict_getitem.lookup ?_)
  have fin : wpAny (model X.prog X.w) X.A (subscripted slice false (.ref p) (.ref b)) (fun r s₃ => wpAny (model X.prog X.w) X.A (letTemporaryGo value (.ref p) r >>= fun _ => pure r) (EP X pins σ Q) X.xe s₃) X.xe s := by
    rw [hs]
    exact wpAny_operating (wpAny_getItem_heap (tupleKind_room_in1 hu) (key_is I hk) dd hq (wpAny_bind (wpAny_letTemporaryGo (wpAny_pure ⟨z, H, I.tok _, rz, fin⟩))))
  first
    | exact wpAny_pure (wpAny_bind fin)
    | exact wpAny_bind (wpAny_pure (wpAny_bind fin))
    | exact wpAny_bind fin
/-- d[k], keys ints and texts -/
abbrev rIxDK : R2 := fun x y H Q => ∃ a v, x = .ref a ∧ DGet H a y (some v) ∧ Q v H
theorem ix_dk (hu : X.A.units + 1 < cLine) : IxR X rIxDK := by
  intro value slice pins s σ H x y v u Q I rx ry h hs
  obtain ⟨p, z, rfl, g, fin⟩ := h
  cases rx
  have dd := dict_typeIs I g
  unfold subscriptTail
  refine wpAny_bind ?_
  rw [getitemInPython_of_ne dd.not_modules]
  refine wpAny_bind (wpAny_specialOf dd PySem.F.slot_dict_getitem.lookup ?_)
  have fin : wpAny (model X.prog X.w) X.A (subscripted slice false (.ref p) u) (fun r s₃ => wpAny (model X.prog X.w) X.A (letTemporaryGo value (.ref p) r >>= fun _ => pure r) (EP X pins σ Q) X.xe s₃) X.xe s := by
    rw [hs]
    exact wpAny_operating (d_getItem hu I g ry fun w' s3 I3 rw' => wpAny_bind (wpAny_letTemporaryGo (wpAny_pure ⟨z, H, I3, rw', fin⟩)))
  first
    | exact wpAny_pure (wpAny_bind fin)
    | exact wpAny_bind (wpAny_pure (wpAny_bind fin))
    | exact wpAny_bind fin
/-- k in d -/
abbrev rInDT (K : PySem.W.Frag) : R2 := fun x y H Q => ∃ p b n xs ks, x = .ref b ∧ y = .ref p ∧ H p = some (DTO p (n, xs)) ∧ KeysIn K H xs ∧ SqT K H b (ks.map V.int) ∧ Q (.bl (atKey xs ks).isSome) H
abbrev rNotInDT (K : PySem.W.Frag) : R2 := fun x y H Q => ∃ p b n xs ks, x = .ref b ∧ y = .ref p ∧ H p = some (DTO p (n, xs)) ∧ KeysIn K H xs ∧ SqT K H b (ks.map V.int) ∧ Q (.bl (!(atKey xs ks).isSome)) H
abbrev rInDK : R2 := fun y x H Q => ∃ a o, x = .ref a ∧ DGet H a y o ∧ Q (.bl o.isSome) H
abbrev rNotInDK : R2 := fun y x H Q => ∃ a o, x = .ref a ∧ DGet H a y o ∧ Q (.bl (!o.isSome)) H
theorem op_inDT (hu : X.A.units + 1 < cLine) : OpR X (compareOp .In) (rInDT X.K) := by
  intro pins s σ H x y v u Q I rx ry h
  obtain ⟨p, b, n, xs, ks, rfl, rfl, e, kk, hk, fin⟩ := h
  cases rx; cases ry
  obtain ⟨dd, z1, z2⟩ := dto_ok I e kk
  exact wpAny_in_heap (tupleKind_room_in1 hu) (key_is I hk) z2 dd ⟨.bl _, H, I.tok _, rfl, fin⟩
theorem op_notInDT (hu : X.A.units + 1 < cLine) : OpR X (compareOp .NotIn) (rNotInDT X.K) := by
  intro pins s σ H x y v u Q I rx ry h
  obtain ⟨p, b, n, xs, ks, rfl, rfl, e, kk, hk, fin⟩ := h
  cases rx; cases ry
  obtain ⟨dd, z1, z2⟩ := dto_ok I e kk
  exact wpAny_notIn_heap (tupleKind_room_in1 hu) (key_is I hk) z2 dd ⟨.bl _, H, I.tok _, rfl, fin⟩
theorem op_inDK (hu : X.A.units + 1 < cLine) : OpR X (compareOp .In) rInDK := by
  intro pins s σ H x y v u Q I rx ry h
  obtain ⟨a, o, rfl, g, fin⟩ := h
  cases ry
  exact d_in hu I g rx fun s' I' => ⟨.bl _, H, I', rfl, fin⟩
theorem op_notInDK (hu : X.A.units + 1 < cLine) : OpR X (compareOp .NotIn) rNotInDK := by
  intro pins s σ H x y v u Q I rx ry h
  obtain ⟨a, o, rfl, g, fin⟩ := h
  cases ry
  exact d_notIn hu I g rx fun s' I' => ⟨.bl _, H, I', rfl, fin⟩
/-- d[k] = v -/
def rSetDT (K : PySem.W.Frag) : V → V → V → Hp → (Hp → Prop) → Prop := fun o i v H Q => ∃ p b n xs ks, o = .ref p ∧ i = .ref b ∧ H p = some (DTO p (n, xs)) ∧ KeysIn K H xs ∧ SqT K H b (ks.map V.int) ∧ xs.length < sizeLine ∧ ∀ u n', RelV v u → Q (upd H p (DTO p (n', storedH xs ks b u)))
theorem set_dt (hu : X.A.units + 1 < cLine) : PSet X (rSetDT X.K) := by
  intro pins s σ H o i v ov iv u Q I ro ri rv h
  obtain ⟨p, b, n, xs, ks, rfl, rfl, e, kk, hk, hl, fin⟩ := h
  cases ro; cases ri
  obtain ⟨dd, z1, z2⟩ := dto_ok I e kk
  refine wpAny_setItem_heap (hsz := z1) (tupleKind_room_in1 hu) (key_is I hk) dd fun h' dd' hs => ?_
  have he : ∃ q, h'.get? p = some q := let ⟨q, _, _, hq, _⟩ := dd'; ⟨q, hq⟩
  obtain ⟨n', mk⟩ := dto_new dd' (Nat.le_trans (storedH_len xs ks b u) hl) z2
  exact ⟨_, d_write I (by rw [e]; exact True.intro) hs he (mk _), fin u n' rv⟩
def rSetDK : V → V → V → Hp → (Hp → Prop) → Prop := fun o i v H Q => ∃ p kvs k, o = .ref p ∧ i = kV k ∧ H p = some (.dK kvs) ∧ kvs.length < sizeLine ∧ Q (upd H p (.dK (putK kvs k v)))
theorem set_dk (hu : X.A.units + 1 < cLine) : PSet X rSetDK := by
  intro pins s σ H o i v ov iv u Q I ro ri rv h
  obtain ⟨p, kvs, k, rfl, rfl, e, hl, fin⟩ := h
  cases ro
  exact d_setItem hu I (DPut.k e hl) ri rv fun s' I' => ⟨_, I', fin⟩
def rOrS (r r' : V → V → V → Hp → (Hp → Prop) → Prop) : V → V → V → Hp → (Hp → Prop) → Prop := fun o i v H Q => r o i v H Q ∨ r' o i v H Q
theorem set_or {r r' : V → V → V → Hp → (Hp → Prop) → Prop} (h : PSet X r) (h' : PSet X r') : PSet X (rOrS r r') := by
  intro pins s σ H o i v ov iv u Q I ro ri rv q
  rcases q with q | q
  · exact h pins s σ H o i v ov iv u Q I ro ri rv q
  · exact h' pins s σ H o i v ov iv u Q I ro ri rv q
/-- d.get(k), d.get(k, x) -/
theorem dto_isD (I : Inv X pins σ H s) (e : H a = some (DTO a (n, xs))) (k : KeysIn X.K H xs) :
    s.TypeIs (.ref a) "dict" ∧ (∀ b, Value.ref a = .ref b → ∃ ob, s.heap.get? b = some ob ∧ ob.dict = none) ∧ (a == sysModules) = false := by
  obtain ⟨dd, z1, z2⟩ := dto_ok I e k
  refine ⟨dd.typeIs, fun b q => ?_, z2⟩
  cases q
  obtain ⟨ob, _, _, h1, h2, _⟩ := dd
  exact ⟨ob, h1, h2.2.1⟩
def tGet1 (td ty : TE) (K : PySem.W.Frag) : TE := fun σ H Q => td σ H fun x H1 => ∃ a, x = .ref a ∧ ((IsD H1 a ∧ ty σ H1 fun y H2 => ∃ o, DGet H2 a y o ∧ Q (o.getD .non) H2) ∨
  ∃ n xs, H1 a = some (DTO a (n, xs)) ∧ KeysIn K H1 xs ∧ ty σ H1 fun y H2 => ∃ b ks z, y = .ref b ∧ H2 a = some (DTO a (n, xs)) ∧ KeysIn K H2 xs ∧ SqT K H2 b (ks.map V.int) ∧ RelV z (((atKey xs ks).map (·.2)).getD .none) ∧ Q z H2)
def tGet2 (td ty tx : TE) (K : PySem.W.Frag) : TE := fun σ H Q => td σ H fun x H1 => ∃ a, x = .ref a ∧ ((IsD H1 a ∧ ty σ H1 fun y H2 => tx σ H2 fun z H3 => ∃ o, DGet H3 a y o ∧ Q (o.getD z) H3) ∨
  ∃ n xs, H1 a = some (DTO a (n, xs)) ∧ KeysIn K H1 xs ∧ ty σ H1 fun y H2 => tx σ H2 fun d H3 => ∃ b ks z, y = .ref b ∧ H3 a = some (DTO a (n, xs)) ∧ KeysIn K H3 xs ∧ SqT K H3 b (ks.map V.int) ∧ (∀ u, RelV d u → RelV z (((atKey xs ks).map (·.2)).getD u)) ∧ Q z H3)
end
section
variable {X : Cx} {o e f : Expr} {apos cpos : Pos} {td ty tx : TE}
theorem pe_get1 (hu : X.A.units + 1 < cLine) (ho : PE X o td) (he : PE X e ty) (m : M1 X o "get" apos e cpos) : PE X (.Call (.Attribute o "get" apos) [e] [] cpos) (tGet1 td ty X.K) := by
  refine ⟨fun pins s σ H Q I h => ?_⟩
  refine wpAny_Call_method m.base m.few m.line PySem.F.plainAttrs_dict PySem.F.slot_dict_get PySem.F.type_dict_get (thn (ho.run pins s σ H _ I h) fun u s1 ⟨x, H1, I1, rx, a, ex, q1⟩ => ?_)
  subst ex
  obtain rfl : u = Value.ref a := rx
  rw [m.trees]
  rcases q1 with ⟨d, q1⟩ | ⟨n, xs, e1, k1, q1⟩
  · obtain ⟨t1, t2, _⟩ := isD_at I1 d
    refine ⟨t1, t2, ?_⟩
    refine Calls.callWith_builtin rfl (Calls.evalArgs_plain (Calls.spliced_cons (thn (he.run pins s1 σ H1 _ I1 q1) fun iv s2 ⟨y, H2, I2, ry, ov, g, q2⟩ => Calls.spliced_nil ?_)))
    exact d_get1 hu I2 g ry fun w' s3 I3 rw' => ⟨_, H2, I3, rw', q2⟩
  · obtain ⟨t1, t2, _⟩ := dto_isD I1 e1 k1
    refine ⟨t1, t2, ?_⟩
    refine Calls.callWith_builtin rfl (Calls.evalArgs_plain (Calls.spliced_cons (thn (he.run pins s1 σ H1 _ I1 q1) fun iv s2 ⟨y, H2, I2, ry, b, ks, z, ey, e2, k2, hk, rz, q2⟩ => Calls.spliced_nil ?_)))
    subst ey
    cases (show iv = Value.ref b from ry)
    obtain ⟨dd, z1, z2⟩ := dto_ok I2 e2 k2
    exact call_meetsIn PySem.F.slot_dict_get dd.typeIs PySem.F.entry_dict_get (PySem.F.args_dict_get_2 _ _) (meetsH_dict_get (tk X.prog X.w) a b z2) ⟨tupleKind_room_in1 hu, ks, xs, key_is I2 hk, dd, ⟨z, H2, I2.tok _, rz, q2⟩⟩
theorem pe_get2 (hu : X.A.units + 1 < cLine) (ho : PE X o td) (he : PE X e ty) (hf : PE X f tx) (m : M2 X o "get" apos e f cpos) : PE X (.Call (.Attribute o "get" apos) [e, f] [] cpos) (tGet2 td ty tx X.K) := by
  refine ⟨fun pins s σ H Q I h => ?_⟩
  refine wpAny_Call_method m.base m.few m.line PySem.F.plainAttrs_dict PySem.F.slot_dict_get PySem.F.type_dict_get (thn (ho.run pins s σ H _ I h) fun u s1 ⟨x, H1, I1, rx, a, ex, q1⟩ => ?_)
  subst ex
  obtain rfl : u = Value.ref a := rx
  rw [m.trees]
  rcases q1 with ⟨d, q1⟩ | ⟨n, xs, e1, k1, q1⟩
  · obtain ⟨t1, t2, _⟩ := isD_at I1 d
    refine ⟨t1, t2, ?_⟩
    refine Calls.callWith_builtin rfl (Calls.evalArgs_plain (Calls.spliced_cons (thn (he.run pins s1 σ H1 _ I1 q1) fun iv s2 ⟨y, H2, I2, ry, q2⟩ =>
      Calls.spliced_cons (thn (hf.run pins s2 σ H2 _ I2 q2) fun fv s3 ⟨z, H3, I3, rz, ov, g, q3⟩ => Calls.spliced_nil ?_))))
    exact d_get2 hu I3 g ry rz fun w' s4 I4 rw' => ⟨_, H3, I4, rw', q3⟩
  · obtain ⟨t1, t2, _⟩ := dto_isD I1 e1 k1
    refine ⟨t1, t2, ?_⟩
    refine Calls.callWith_builtin rfl (Calls.evalArgs_plain (Calls.spliced_cons (thn (he.run pins s1 σ H1 _ I1 q1) fun iv s2 ⟨y, H2, I2, ry, q2⟩ =>
      Calls.spliced_cons (thn (hf.run pins s2 σ H2 _ I2 q2) fun fv s3 ⟨d, H3, I3, rd, b, ks, z, ey, e3, k3, hk, rz, q3⟩ => Calls.spliced_nil ?_))))
    subst ey
    cases (show iv = Value.ref b from ry)
    obtain ⟨dd, z1, z2⟩ := dto_ok I3 e3 k3
    exact call_meetsIn PySem.F.slot_dict_get dd.typeIs PySem.F.entry_dict_get (PySem.F.args_dict_get_3 _ _ _) (meetsH_dict_get_default (tk X.prog X.w) a b z2 fv) ⟨tupleKind_room_in1 hu, ks, xs, key_is I3 hk, dd, ⟨z, H3, I3.tok _, rz fv rd, q3⟩⟩
end
/-! displays -/
section
variable {X : Cx} {pos : Pos}
theorem dto_empty {P : Program} {w : World} {H : Hp} (h : Heap) (hb : sysModules < h.objs.size) : ObjOk P w H (h.push { cls := .type "dict", data := .dict #[] }) h.objs.size (DTO h.objs.size (0, [])) :=
  ⟨⟨_, #[], Heap.get?_push_size _ rfl, ⟨rfl, rfl, rfl⟩, rfl, rfl, List.nodup_nil, Nat.zero_le _, beq_eq_false_iff_ne.mpr (Ne.symm (Nat.ne_of_lt hb))⟩, ⟨_, Heap.get?_push_size _ rfl⟩, fun k1 k2 ⟨o, es, h1, r⟩ k => ⟨o, es, k _ h1, r⟩⟩
def tDNewO : TE := fun _ H Q => ∀ p, H p = none → Q (.ref p) (upd H p (DTO p (0, [])))
theorem pe_dnewO : PE X (.Dict [] [] pos) tDNewO := ⟨fun pins s σ H Q I h =>
  wpAny_Dict_empty ⟨.ref s.heap.objs.size, _, I.laid (a := s.heap.objs.size) (o := DTO s.heap.objs.size (0, [])) (t' := s.toks) (fun _ _ q => Heap.get?_push_of_some _ q) (Nat.le_refl _) (dto_empty s.heap I.big), rfl, h _ (I.hok.fresh (Nat.le_refl _))⟩⟩
/-- {k: v}, k a tuple of ints -/
def tDisp1 (K : PySem.W.Frag) (t1 t2 : TE) : TE := fun σ H Q => ∀ p, H p = none → t1 σ (upd H p (DTO p (0, []))) fun x H1 => t2 σ H1 fun y H2 => H2 p = some (DTO p (0, [])) ∧ ∃ b ks, x = .ref b ∧ SqT K H2 b (ks.map V.int) ∧ ∀ u n, RelV y u → Q (.ref p) (upd H2 p (DTO p (n, [(ks, b, u)])))
theorem pe_disp1 {k v : Expr} {t1 t2 : TE} (hu : X.A.units + 1 < cLine) (hk : PE X k t1) (hv : PE X v t2) : PE X (.Dict [some k] [v] pos) (tDisp1 X.K t1 t2) := by
  refine ⟨fun pins s σ H Q I q => ?_⟩
  have hn := I.hok.fresh (Nat.le_refl s.heap.objs.size)
  have I1 := I.laid (a := s.heap.objs.size) (o := DTO s.heap.objs.size (0, [])) (h' := s.heap.push { cls := .type "dict", data := .dict #[] }) (t' := s.toks) (fun _ _ q => Heap.get?_push_of_some _ q) (Nat.le_refl _) (dto_empty s.heap I.big)
  rw [arm_eval_Dict, zip_pairTrees [some k] [v] X.env pos rfl rfl, dictDisplay_pairs (pairTrees [some k] [v] X.env pos) (by simp [pairTrees]) (by simp [pairTrees])]
  refine wpAny_bind (wpAny_standAt (wpAny_bind (wpAny_subDictH (knd := tk X.prog X.w) (Q := fun d s' => wpAny (model X.prog X.w) X.A (pure (Value.ref d)) (EP X pins σ Q) X.xe s') (show X.A.units < cLine by omega) (by simp [pairTrees]) ?_)))
  refine pairTrees_cons_walk (thn (hk.run pins _ σ _ _ I1 (q _ hn)) fun kv s1 ⟨x, H1, I1, rx, q1⟩ => thn (hv.run pins s1 σ H1 _ I1 q1) fun vv s2 ⟨y, H2, I2, ry, e, b, ks, ex, hb, q2⟩ => pairTrees_nil_walk ?_)
  subst ex
  cases (show kv = Value.ref b from rx)
  obtain ⟨dd, z1, z2⟩ := dto_ok I2 e (fun x hx => absurd hx (by simp))
  refine ⟨[(ks, b, vv)], ⟨rfl, rfl, key_is I2 hb, True.intro⟩, dd, fun h' tk' dd' hs => ?_⟩
  have he : ∃ q, h'.get? s.heap.objs.size = some q := let ⟨q, _, _, hq, _⟩ := dd'; ⟨q, hq⟩
  obtain ⟨n', mk⟩ := dto_new dd' (by rw [sizeLine_eq]; show 1 ≤ 16777216; decide) z2
  exact wpAny_pure ⟨.ref _, _, d_write I2 (by rw [e]; exact True.intro) hs he (mk _), rfl, q2 vv n' ry⟩
end
end VL

namespace VL
open PySem PySem.Spec PyProof.Rows L2

/-! ## dicts as values -/
section
variable {κ : Type} [DecidableEq κ]
def dGet (kvs : List (κ × PyData)) (k : κ) : Option PyData := (kvs.find? fun p => decide (p.1 = k)).map (·.2)
def dPut (kvs : List (κ × PyData)) (k : κ) (d : PyData) : List (κ × PyData) :=
  if (kvs.any fun p => decide (p.1 = k)) = true then kvs.map (fun p => if p.1 = k then (p.1, d) else p) else kvs ++ [(k, d)]
def dDrop (kvs : List (κ × PyData)) (k : κ) : List (κ × PyData) := kvs.filter fun p => decide (p.1 ≠ k)
@[simp] theorem dGet_nil (k : κ) : dGet [] k = none := rfl
theorem dGet_cons (p : κ × PyData) (kvs : List (κ × PyData)) (k : κ) : dGet (p :: kvs) k = if p.1 = k then some p.2 else dGet kvs k := by
  unfold dGet
  by_cases h : p.1 = k <;> simp [List.find?_cons, h]
theorem dGet_any (kvs : List (κ × PyData)) (k : κ) : (kvs.any fun p => decide (p.1 = k)) = (dGet kvs k).isSome := by
  induction kvs with
  | nil => rfl
  | cons p kvs ih =>
    rw [List.any_cons, dGet_cons, ih]
    by_cases h : p.1 = k <;> simp [h]
theorem dGet_put (kvs : List (κ × PyData)) (k j : κ) (d : PyData) : dGet (dPut kvs k d) j = if j = k then some d else dGet kvs j := by
  unfold dPut
  by_cases a : (kvs.any fun p => decide (p.1 = k)) = true
  · rw [if_pos a]
    induction kvs with
    | nil => simp at a
    | cons p kvs ih =>
      rw [List.map_cons, dGet_cons, dGet_cons]
      by_cases h : p.1 = k
      · simp only [h, if_true]
        by_cases hj : k = j
        · simp [hj]
        · rw [if_neg hj, if_neg hj, if_neg (fun z => hj z.symm)]
          by_cases b : (kvs.any fun p => decide (p.1 = k)) = true
          · rw [ih b, if_neg (fun z => hj z.symm)]
          · congr 1
            have : kvs.map (fun p => if p.1 = k then (p.1, d) else p) = kvs.map id := by
              apply List.map_congr_left
              intro q hq
              have : ¬ q.1 = k := fun z => b (List.any_eq_true.mpr ⟨q, hq, by simp [z]⟩)
              simp [this]
            have h2 := this
            simp only [List.map_id] at h2
            exact h2
      · have b : (kvs.any fun p => decide (p.1 = k)) = true := by
          rw [List.any_cons] at a; simpa [h] using a
        simp only [h, if_false]
        rw [ih b]
        by_cases hj : p.1 = j
        · have : ¬ j = k := fun z => h (hj.trans z)
          simp [hj, this]
        · simp [hj]
  · rw [if_neg a]
    have n : dGet kvs k = none := by
      rw [dGet_any] at a
      cases e : dGet kvs k with
      | none => rfl
      | some x => rw [e] at a; simp at a
    clear a
    induction kvs with
    | nil => rw [List.nil_append, dGet_cons]; by_cases h : k = j <;> simp [h, eq_comm]
    | cons p kvs ih =>
      rw [List.cons_append, dGet_cons, dGet_cons]
      rw [dGet_cons] at n
      by_cases h : p.1 = k
      · simp [h] at n
      · rw [if_neg h] at n
        rw [ih n]
        by_cases hj : p.1 = j
        · have : ¬ j = k := fun z => h (hj.trans z)
          simp [hj, this]
        · simp [hj]
theorem dPut_new {kvs : List (κ × PyData)} {k : κ} (d : PyData) (h : dGet kvs k = none) : dPut kvs k d = kvs ++ [(k, d)] := by
  unfold dPut
  rw [dGet_any, h]
  rfl
theorem dPut_keys_old {kvs : List (κ × PyData)} {k : κ} (d : PyData) (h : (dGet kvs k).isSome = true) : (dPut kvs k d).map (·.1) = kvs.map (·.1) := by
  unfold dPut
  rw [dGet_any, if_pos h, List.map_map]
  apply List.map_congr_left
  intro p _
  by_cases e : p.1 = k <;> simp [e]
theorem dGet_drop (kvs : List (κ × PyData)) (k j : κ) : dGet (dDrop kvs k) j = if j = k then none else dGet kvs j := by
  unfold dDrop
  induction kvs with
  | nil => simp
  | cons p kvs ih =>
    rw [List.filter_cons, dGet_cons]
    by_cases h : p.1 = k
    · simp only [h, ne_eq, not_true, decide_false, Bool.false_eq_true, if_false]
      rw [ih]
      by_cases hj : k = j
      · simp [hj]
      · have : ¬ j = k := fun z => hj z.symm
        simp [hj, this]
    · simp only [h, ne_eq, not_false_eq_true, decide_true, if_true]
      rw [dGet_cons, ih]
      by_cases hj : p.1 = j
      · have : ¬ j = k := fun z => h (hj.trans z)
        simp [hj, this]
      · simp [hj]
end
def keyD : PyData → Option Key
  | .int i => some (.inl i)
  | .str x => some (.inr x)
  | _ => none
def keyTD : PyData → Option (List Int)
  | .tuple xs => intsD xs
  | _ => none
section
variable {K : PySem.W.Frag} {ca : Nat → Addr} {H0 F H : Hp} {v : V} {r : RV}
theorem keyD_ok {x : PyData} {k : Key} (h : Dq K F v x) (e : keyD x = some k) : v = kV k := by
  cases x with
  | int i => cases h; cases e; rfl
  | str i => cases h; cases e; rfl
  | _ => cases e
theorem keyTD_ok {x : PyData} {k : List Int} (h : Dq K F v x) (e : keyTD x = some k) : ∃ b, v = .ref b ∧ SqN K F b (k.map V.int) := by
  cases x with
  | tuple xs =>
    cases h with
    | tup h1 h2 =>
      have := ints_ok h2 e
      subst this
      exact ⟨_, rfl, h1⟩
  | _ => cases e
theorem KTl.keys {xs : List (List Int × Addr × Value)} {kvs : List (List Int × PyData)} (h : KTl K F xs kvs) (s : Same F H) : KeysIn K H xs := by
  induction h with
  | nil => intro x hx; simp at hx
  | cons h1 _ ih =>
    intro x hx
    rcases List.mem_cons.mp hx with rfl | hx
    · exact same_seqT s h1.2.1.1
    · exact ih x hx
theorem KTl.len {xs : List (List Int × Addr × Value)} {kvs : List (List Int × PyData)} (h : KTl K F xs kvs) : xs.length = kvs.length := Paired.length h
theorem atKey_cons (p : List Int × Addr × Value) (xs : List (List Int × Addr × Value)) (k : List Int) : atKey (p :: xs) k = if p.1 = k then some p.2 else atKey xs k := by
  unfold atKey
  by_cases h : p.1 = k <;> simp [List.find?_cons, h]
/-- what stands at a key, on both sides -/
theorem KTl.at {xs : List (List Int × Addr × Value)} {kvs : List (List Int × PyData)} (h : KTl K F xs kvs) (k : List Int) : (atKey xs k = none ∧ dGet kvs k = none) ∨ ∃ q d v, atKey xs k = some q ∧ dGet kvs k = some d ∧ RelV v q.2 ∧ Dq K F v d := by
  induction h with
  | nil => exact .inl ⟨rfl, rfl⟩
  | @cons p q ps qs h1 h2 ih =>
    rw [atKey_cons, dGet_cons, ← h1.1]
    by_cases e : p.1 = k
    · rw [if_pos e, if_pos e]
      obtain ⟨v, r1, r2⟩ := h1.2.2
      exact .inr ⟨_, _, v, rfl, rfl, r1, r2⟩
    · rw [if_neg e, if_neg e]; exact ih
theorem KTl.repl {xs : List (List Int × Addr × Value)} {kvs : List (List Int × PyData)} (h : KTl K F xs kvs) (k : List Int) {u : Value} {w : V} {d : PyData} (r : RelV w u) (dq : Dq K F w d) : KTl K F (xs.map (putAt k u)) (kvs.map fun p => if p.1 = k then (p.1, d) else p) := by
  induction h with
  | nil => exact .nil
  | @cons p q ps qs h1 h2 ih =>
    rw [List.map_cons, List.map_cons]
    refine .cons ?_ ih
    unfold putAt
    by_cases e : p.1 = k
    · rw [if_pos e, if_pos (h1.1.symm.trans e)]; exact ⟨h1.1, h1.2.1, w, r, dq⟩
    · rw [if_neg e, if_neg (fun z => e (h1.1.trans z))]; exact h1
theorem KTl.put {xs : List (List Int × Addr × Value)} {kvs : List (List Int × PyData)} (h : KTl K F xs kvs) (k : List Int) {b : Addr} {u : Value} {w : V} {d : PyData} (hb : SqN K F b (k.map V.int)) (r : RelV w u) (q : Dq K F w d) : KTl K F (storedH xs k b u) (dPut kvs k d) := by
  have e : (kvs.any fun p => decide (p.1 = k)) = (atKey xs k).isSome := by
    rw [dGet_any]
    rcases h.at k with ⟨a, b⟩ | ⟨q, d, v, a, b, _⟩ <;> rw [a, b] <;> rfl
  unfold storedH dPut
  rw [e]
  by_cases c : (atKey xs k).isSome = true
  · rw [if_pos c, if_pos c]; exact h.repl k r q
  · rw [if_neg c, if_neg c]; exact Paired.snoc h ⟨rfl, hb, w, r, q⟩
/-- keys ints and texts -/
theorem KD.at {xs : List (Key × V)} {kvs : List (Key × PyData)} (h : KD K F xs kvs) (k : Key) : (valV xs k = none ∧ dGet kvs k = none) ∨ ∃ v d, valV xs k = some v ∧ dGet kvs k = some d ∧ Dq K F v d := by
  induction h with
  | nil => exact .inl ⟨rfl, rfl⟩
  | @cons p q ps qs h1 h2 ih =>
    rw [dGet_cons, ← h1.1]
    by_cases e : p.1 = k
    · rw [if_pos e, valV_pos e]; exact .inr ⟨_, _, rfl, rfl, h1.2⟩
    · rw [if_neg e, valV_neg e]; exact ih
theorem KD.put {xs : List (Key × V)} {kvs : List (Key × PyData)} (h : KD K F xs kvs) (k : Key) {w : V} {d : PyData} (q : Dq K F w d) : KD K F (putK xs k w) (dPut kvs k d) := by
  have e : (kvs.any fun p => decide (p.1 = k)) = (xs.any fun p => decide (p.1 = k)) := by
    rw [dGet_any, valV_any]
    rcases h.at k with ⟨a, b⟩ | ⟨q, d, a, b, _⟩ <;> rw [a, b] <;> rfl
  unfold putK dPut
  rw [e]
  by_cases c : (xs.any fun p => decide (p.1 = k)) = true
  · rw [if_pos c, if_pos c]
    clear e c
    induction h with
    | nil => exact .nil
    | @cons p r ps qs h1 h2 ih =>
      rw [List.map_cons, List.map_cons]
      refine .cons ?_ ih
      by_cases e : p.1 = k
      · rw [if_pos e, if_pos (h1.1.symm.trans e)]; exact ⟨h1.1, q⟩
      · rw [if_neg e, if_neg (fun z => e (h1.1.trans z))]; exact h1
  · rw [if_neg c, if_neg c]; exact Paired.snoc h ⟨rfl, q⟩
theorem KD.drop {xs : List (Key × V)} {kvs : List (Key × PyData)} (h : KD K F xs kvs) (k : Key) : KD K F (dropK xs k) (dDrop kvs k) := by
  unfold dropK dDrop
  induction h with
  | nil => exact .nil
  | @cons p r ps qs h1 h2 ih =>
    rw [List.filter_cons, List.filter_cons, ← h1.1]
    by_cases e : p.1 = k
    · simp only [e, ne_eq, not_true, decide_false, Bool.false_eq_true, if_false]; exact ih
    · simp only [e, ne_eq, not_false_eq_true, decide_true, if_true]; exact .cons h1 ih
/-! ### d[k], k in d -/
def RV.dk : RV → Option (List (Key × PyData))
  | .od kvs => some kvs
  | .bd kvs => some kvs
  | _ => none
def RV.dt : RV → Option (List (List Int × PyData))
  | .ot kvs => some kvs
  | .bt kvs => some kvs
  | _ => none
theorem dk_ok {kvs : List (Key × PyData)} (h : RVok K H0 F H v r) (e : r.dk = some kvs) : ∃ p xs, v = .ref p ∧ Rd H p (.dK xs) ∧ KD K F xs kvs := by
  cases r with
  | od ys => cases e; obtain ⟨p, vs, e1, _, _, hp, q⟩ := h; exact ⟨p, vs, e1, .inl hp, q⟩
  | bd ys => cases e; obtain ⟨p, vs, e1, hp, q⟩ := h; exact ⟨p, vs, e1, hp, q⟩
  | _ => cases e
theorem dgetR {H : Hp} {a : Addr} {kvs : List (Key × V)} {k : Key} (e : Rd H a (.dK kvs)) : DGet H a (kV k) (valV kvs k) := .inl ⟨kvs, k, e, rfl, rfl⟩
theorem rd_same {H H' : Hp} {a : Addr} {u : HO} (s : Same H H') (h : Rd H a u) : Rd H' a u := h.imp (s _ _) fun ⟨o, z⟩ => ⟨o, s _ _ z⟩
theorem dt_ok {kvs : List (List Int × PyData)} (h : RVok K H0 F H v r) (e : r.dt = some kvs) : ∃ p n xs, v = .ref p ∧ H p = some (DTO p (n, xs)) ∧ KTl K F xs kvs := by
  cases r with
  | ot ys => cases e; obtain ⟨p, ⟨n, vs⟩, e1, _, _, hp, q⟩ := h; exact ⟨p, n, vs, e1, hp, q⟩
  | bt ys => cases e; obtain ⟨p, ⟨n, vs⟩, e1, hp, q⟩ := h; exact ⟨p, n, vs, e1, hp, q⟩
  | _ => cases e
def RV.sd : RV → Option PyData
  | .d x => some x
  | _ => none
theorem sd_ok {x : PyData} (h : RVok K H0 F H v r) (e : r.sd = some x) : Dq K F v x := by
  cases r with
  | d y => cases e; exact h
  | _ => cases e
def gGetDK (kvs : List (Key × PyData)) (b : RV) : Rs (Option PyData) := (rsO (b.sd.bind keyD)).bind fun k => .ok (dGet kvs k)
def gGetDT (kvs : List (List Int × PyData)) (b : RV) : Rs (Option PyData) := (rsO (b.sd.bind keyTD)).bind fun k => .ok (dGet kvs k)
/-- what a dict holds at a key -/
def gAt (a b : RV) : Rs (Option PyData) := match a.dk with
  | some kvs => gGetDK kvs b
  | none => (match a.dt with
    | some kvs => gGetDT kvs b
    | none => .no)
theorem gAt_ok {v1 v2 : V} {a b : RV} {o : Option PyData} (s : Same F H) (h1 : RVok K H0 F H v1 a) (h2 : RVok K H0 F H v2 b) (e : gAt a b = .ok o) :
    (∃ p z, v1 = .ref p ∧ DGet H p v2 z ∧ ((z = none ∧ o = none) ∨ ∃ w d, z = some w ∧ o = some d ∧ Dq K F w d)) ∨
    (∃ p c n xs ks, v1 = .ref p ∧ v2 = .ref c ∧ H p = some (DTO p (n, xs)) ∧ KeysIn K H xs ∧ SqT K H c (ks.map V.int) ∧ ((atKey xs ks = none ∧ o = none) ∨ ∃ q d w, atKey xs ks = some q ∧ o = some d ∧ RelV w q.2 ∧ Dq K F w d)) := by
  unfold gAt at e
  cases e1 : a.dk with
  | some kvs =>
    rw [e1] at e
    obtain ⟨p, xs, rfl, hp, kd⟩ := dk_ok h1 e1
    simp only [gGetDK] at e
    cases e2 : b.sd with
    | none => rw [e2] at e; cases e
    | some x =>
      rw [e2] at e
      simp only [Option.bind_some] at e
      cases e3 : keyD x with
      | none => rw [e3] at e; cases e
      | some k =>
        rw [e3] at e
        simp only [rsO_some, Rs.bind_ok, Rs.ok.injEq] at e
        subst e
        obtain rfl := keyD_ok (sd_ok h2 e2) e3
        refine .inl ⟨p, _, rfl, dgetR hp, ?_⟩
        rcases kd.at k with h | ⟨w, d, h⟩
        · exact .inl h
        · exact .inr ⟨w, d, h⟩
  | none =>
    rw [e1] at e
    simp only at e
    cases e4 : a.dt with
    | none => rw [e4] at e; cases e
    | some kvs =>
      rw [e4] at e
      obtain ⟨p, n, xs, rfl, hp, kd⟩ := dt_ok h1 e4
      simp only [gGetDT] at e
      cases e2 : b.sd with
      | none => rw [e2] at e; cases e
      | some x =>
        rw [e2] at e
        simp only [Option.bind_some] at e
        cases e3 : keyTD x with
        | none => rw [e3] at e; cases e
        | some k =>
          rw [e3] at e
          simp only [rsO_some, Rs.bind_ok, Rs.ok.injEq] at e
          subst e
          obtain ⟨c, rfl, hc⟩ := keyTD_ok (sd_ok h2 e2) e3
          exact .inr ⟨p, c, n, xs, k, rfl, rfl, hp, kd.keys s, same_seqT s hc.1, kd.at k⟩
def gIxD (a b : RV) : Rs RV := (gAt a b).bind fun o => (rsO o).bind fun d => .ok (.d d)
def gInD (a b : RV) : Rs RV := (gAt b a).bind fun o => okB o.isSome
def gNotInD (a b : RV) : Rs RV := (gAt b a).bind fun o => okB (!o.isSome)
theorem gAt_ex {a b : RV} {c : Nat} {fs : List (Str × PyData)} : gAt a b ≠ .ex c fs := fun e => by
  unfold gAt gGetDK gGetDT at e
  split at e
  · cases e2 : b.sd.bind keyD <;> rw [e2] at e <;> cases e
  · split at e
    · cases e2 : b.sd.bind keyTD <;> rw [e2] at e <;> cases e
    · cases e
theorem s_ixD : Op2S K ca (fun x y H Q => rIxDK x y H Q ∨ rIxDT K x y H Q) gIxD := by
  intro W σ F0 H0 F H v1 v2 a b Q gr h1 h2 p
  unfold gIxD at p
  cases e : gAt a b with
  | no => rw [e] at p; exact p.elim
  | ex c fs => exact absurd e gAt_ex
  | ok o =>
    rw [e] at p
    rcases gAt_ok gr.cfg.sub h1 h2 e with ⟨q, z, rfl, g, hz⟩ | ⟨q, c, n, xs, ks, rfl, rfl, hp, kk, hk, hz⟩
    · rcases hz with ⟨rfl, rfl⟩ | ⟨w, d, rfl, rfl, dq⟩
      · exact p.elim
      · exact .inl ⟨q, w, rfl, g, p F H _ gr dq⟩
    · rcases hz with ⟨_, rfl⟩ | ⟨q', d, w, hq, rfl, rw', dq⟩
      · exact p.elim
      · exact .inr ⟨q, c, n, xs, ks, q', w, rfl, rfl, hp, kk, hk, hq, rw', p F H _ gr dq⟩
theorem s_inD : Op2S K ca (rOr rInDK (rInDT K)) gInD := by
  intro W σ F0 H0 F H v1 v2 a b Q gr h1 h2 p
  unfold gInD at p
  cases e : gAt b a with
  | no => rw [e] at p; exact p.elim
  | ex c fs => exact absurd e gAt_ex
  | ok o =>
    rw [e] at p
    rcases gAt_ok gr.cfg.sub h2 h1 e with ⟨q, z, rfl, g, hz⟩ | ⟨q, c, n, xs, ks, rfl, rfl, hp, kk, hk, hz⟩
    · refine .inl ⟨q, z, rfl, g, ?_⟩
      rcases hz with ⟨rfl, rfl⟩ | ⟨w, d, rfl, rfl, dq⟩ <;> exact p F H _ gr (.bl _)
    · refine .inr ⟨q, c, n, xs, ks, rfl, rfl, hp, kk, hk, ?_⟩
      rcases hz with ⟨e1, rfl⟩ | ⟨q', d, w, hq, rfl, rw', dq⟩
      · rw [e1]; exact p F H _ gr (.bl _)
      · rw [hq]; exact p F H _ gr (.bl _)
theorem s_notInD : Op2S K ca (rOr rNotInDK (rNotInDT K)) gNotInD := by
  intro W σ F0 H0 F H v1 v2 a b Q gr h1 h2 p
  unfold gNotInD at p
  cases e : gAt b a with
  | no => rw [e] at p; exact p.elim
  | ex c fs => exact absurd e gAt_ex
  | ok o =>
    rw [e] at p
    rcases gAt_ok gr.cfg.sub h2 h1 e with ⟨q, z, rfl, g, hz⟩ | ⟨q, c, n, xs, ks, rfl, rfl, hp, kk, hk, hz⟩
    · refine .inl ⟨q, z, rfl, g, ?_⟩
      rcases hz with ⟨rfl, rfl⟩ | ⟨w, d, rfl, rfl, dq⟩ <;> exact p F H _ gr (.bl _)
    · refine .inr ⟨q, c, n, xs, ks, rfl, rfl, hp, kk, hk, ?_⟩
      rcases hz with ⟨e1, rfl⟩ | ⟨q', d, w, hq, rfl, rw', dq⟩
      · rw [e1]; exact p F H _ gr (.bl _)
      · rw [hq]; exact p F H _ gr (.bl _)
end
section
variable {ca : Nat → Addr} {W : WX} {X : Cx} {a b e : Expr} {es : List Expr} {fa fb fc : VEnv → Rs RV} {pos apos cpos : Pos}
theorem ix_d (hu : X.A.units + 1 < cLine) : IxR X (fun x y H Q => rIxDK x y H Q ∨ rIxDT X.K x y H Q) := (ix_dk hu).or (ix_dt hu)
theorem op_inD2 (hu : X.A.units + 1 < cLine) : OpR X (compareOp .In) (rOr rInDK (rInDT X.K)) := op_or' (op_inDK hu) (op_inDT hu)
theorem op_notInD2 (hu : X.A.units + 1 < cLine) : OpR X (compareOp .NotIn) (rOr rNotInDK (rNotInDT X.K)) := op_or' (op_notInDK hu) (op_notInDT hu)
theorem hu1 {A : Around} {k : Nat} (hr : Room k A) : A.units + 1 < cLine := by have := hr.un; omega
/-! ### {} -/
def cDT : VEnv → Rs RV := fun _ => .ok (.ot [])
def cDK : VEnv → Rs RV := fun _ => .ok (.od [])
theorem ve_dnewT : VE ca W X (.Dict [] [] pos) cDT := by
  refine ⟨_, pe_dnewO, fun B F env σ H Q st p q n => ?_⟩
  have g := Grow.newO st.cfg (DTO q (0, [])) n DTO_tup
  exact p _ _ _ g ⟨q, (0, []), rfl, n, same_none st.cfg.sub n, upd_same, .nil⟩
theorem ve_dnewK : VE ca W X (.Dict [] [] pos) cDK := by
  refine ⟨_, pe_dnewK, fun B F env σ H Q st p q n => ?_⟩
  have g := Grow.newO st.cfg (.dK []) n (fun _ z => by cases z)
  exact p _ _ _ g ⟨q, [], rfl, n, same_none st.cfg.sub n, upd_same, .nil⟩
/-- {k: v} -/
def cDisp1 (fa fb : VEnv → Rs RV) : VEnv → Rs RV := fun env => (fa env).bind fun x => (fb env).bind fun y => (rsO (x.sd.bind keyTD)).bind fun k => (rsO y.toD).bind fun d => .ok (.ot [(k, d)])
theorem ve_disp1 (hu : X.A.units + 1 < cLine) (ha : VE ca W X a fa) (hb : VE ca W X b fb) : VE ca W X (.Dict [some a] [b] pos) (cDisp1 fa fb) := by
  obtain ⟨ta, pa, sa⟩ := ha
  obtain ⟨tb, pb, sb⟩ := hb
  refine ⟨_, pe_disp1 hu pa pb, fun B F env σ H Q st p q n => ?_⟩
  have g := Grow.newO st.cfg (DTO q (0, [])) n DTO_tup
  have st0 := st.grow g
  refine seqE (PostE X.K ca W σ F H Q) sa st0 p (fun _ _ h => PostX.mono g h) (fun h => h) fun x F1 H1 v1 p1 g1 q1 => ?_
  refine seqE (PostE X.K ca W σ F H Q) sb (st0.grow g1) p1 (fun _ _ h => PostX.mono (g.trans g1) h) (fun h => h) fun y F2 H2 v2 p2 g2 q2 => ?_
  have hq : H2 q = some (DTO q (0, [])) := (g1.trans g2).hh _ _ upd_same
  cases e1 : x.sd with
  | none => rw [e1] at p2; exact p2.elim
  | some d1 =>
    rw [e1] at p2
    simp only [Option.bind_some] at p2
    cases e2 : keyTD d1 with
    | none => rw [e2] at p2; exact p2.elim
    | some k =>
      rw [e2] at p2
      simp only [rsO_some, Rs.bind_ok] at p2
      cases e3 : y.toD with
      | none => rw [e3] at p2; exact p2.elim
      | some d2 =>
        rw [e3] at p2
        simp only [rsO_some, Rs.bind_ok] at p2
        obtain ⟨c, rfl, hc⟩ := keyTD_ok (sd_ok (q1.grow g2) e1) e2
        obtain ⟨F3, g3, s3, q3⟩ := frz g2 (Fz.of q2 e3)
        have f1 : F1 q = none := g1.stillFree (same_none st.cfg.sub n) upd_same
        have f3 : F3 q = none := g3.stillFree f1 (g1.hh _ _ upd_same)
        have hc3 := same_seqN s3 hc
        refine ⟨hq, c, k, rfl, same_seqT g3.cfg.sub hc3.1, fun u n' ru => ?_⟩
        exact p2 _ _ _ ((g.trans (g1.trans g3)).write n f3 hq DTO_tup) ⟨q, (n', [(k, c, u)]), rfl, n, f3, upd_same, .cons ⟨rfl, hc3, v2, ru, q3⟩ .nil⟩
/-- {"a": "b", "c": "d"} -/
def cDispS (x y z w : Str) : VEnv → Rs RV := fun _ => .ok (.od [(.inr x, .str y), (.inr z, .str w)])
theorem ve_dispS {x y z w : Str} {k1 k2 k3 k4 : Nat} {p1 p2 p3 p4 : Pos} (hne : x ≠ z) : VE ca W X (.Dict [some (.Constant (.str x) k1 p1), some (.Constant (.str z) k2 p2)] [.Constant (.str y) k3 p3, .Constant (.str w) k4 p4] pos) (cDispS x y z w) := by
  refine ⟨_, pe_disp (pps_cons pe_str pe_str (pps_cons pe_str pe_str pps_nil)) rfl rfl (by simp) (by simp), fun B F env σ H Q st p q n => ?_⟩
  have g := Grow.newO st.cfg (.dK []) n (fun _ z => by cases z)
  have nF := same_none st.cfg.sub n
  refine ⟨upd_same, [(.inr x, .str y), (.inr z, .str w)], rfl, by simp, ?_⟩
  have e : mergeK [] [((.inr x : Key), V.str y), (.inr z, .str w)] = [((.inr x : Key), V.str y), (.inr z, .str w)] := by
    have h2 : ¬ ((Sum.inr x : Key) = .inr z) := fun h => hne (by injection h)
    show putK (putK [] (Sum.inr x) (V.str y)) (Sum.inr z) (V.str w) = _
    have h1 : putK [] (Sum.inr x : Key) (V.str y) = [(Sum.inr x, V.str y)] := rfl
    rw [h1, putK_new _ (by rw [valV_neg h2]; rfl)]
    rfl
  rw [e]
  exact p _ _ _ (g.write n nF upd_same (fun _ z => by cases z)) ⟨q, _, rfl, n, nF, upd_same, .cons ⟨rfl, .str _⟩ (.cons ⟨rfl, .str _⟩ .nil)⟩
/-! ### d[k] = e, xs[i] = e -/
/-- the store into a dict or a list of the def's own -/
def stR (r0 : RV) (ix : RV) (d : PyData) : Rs RV := match r0 with
  | .ol xs => (match ix with
    | .d (.int k) => (rsO (ixN xs.length k)).bind fun j => .ok (.ol (xs.set j d))
    | _ => .no)
  | .od kvs => (rsO (ix.sd.bind keyD)).bind fun k => if kvs.length ≤ 1000000 then .ok (.od (dPut kvs k d)) else .no
  | .ot kvs => (rsO (ix.sd.bind keyTD)).bind fun k => if kvs.length ≤ 1000000 then .ok (.ot (dPut kvs k d)) else .no
  | _ => .no
def sStoreA (i : Nat) (fi fe : VEnv → Rs RV) : VEnv → Out := fun env => match env[i]? with
  | some (some r0) => (fe env).out env fun r => (fi env).out env fun ix => (rsO r.toD).out env fun d => (stR r0 ix d).out env fun r1 => .nx (env.set i (some r1))
  | _ => .no
theorem vs_storeA (i : Nat) {x : Str} {ie : Expr} {p1 p2 : Pos} {fi : VEnv → Rs RV} (hu : X.A.units + 1 < cLine) (he : VE ca W X e fa) (hi : VE ca W X ie fi) (hN : X.N[i]? = some x := by rfl) (hv : Vis X.env.scope x := by first | exact Or.inl rfl | exact Or.inr (Or.inl rfl) | exact Or.inr (Or.inr rfl)) (hd : (x == ("__debug__" : Str)) = false := by decide) (hcd : (x == ("__classdict__" : Str)) = false := by decide)
    (ha : ∀ v, assign (.Subscript (.Name x p1) ie p2) X.env v = (do
      let ov ← holding [v] (eval (.Name x p1) X.env)
      let iv ← holding [v, ov] (eval ie X.env)
      standAt p2
      holding [v, ov, iv] (setItem ov iv v)
      release [v, ov, iv] []) := by intro _; rfl)
    (hs : swapsWithSole [.Subscript (.Name x p1) ie p2] e pos.line X.env = pure false := by rfl) (hw : swappedStores [.Subscript (.Name x p1) ie p2] e X.env = pure none := by rfl)
    (h1 : (assignEach [.Subscript (.Name x p1) ie p2] X.env).map (·.2) = [assign (.Subscript (.Name x p1) ie p2) X.env] := by rfl) :
    VS ca W X (.Assign [.Subscript (.Name x p1) ie p2] e pos) (sStoreA i fi fa) := by
  obtain ⟨t, pe, se⟩ := he
  obtain ⟨ti, pi, si⟩ := hi
  refine ⟨_, ps_asg pe (pg_sub (pe_var hN hv hd hcd) pi (set_or set_list (set_or (set_dk hu) (set_dt hu))) ha) hs hw h1, fun B F env σ H D st p => ?_⟩
  show t σ H fun v H1 => ∃ o, σ[i]? = some (some o) ∧ ti σ H1 fun iv H3 => rOrS rSetL (rOrS rSetDK (rSetDT X.K)) o iv v H3 fun H4 => D.nx σ H4
  unfold sStoreA at p
  split at p
  · rename_i r0 e1
    obtain ⟨v0, s1, ok0⟩ := st.sl i r0 e1
    refine outE se st p fun r F1 H1 v p1 g q1 => ⟨_, s1, ?_⟩
    refine outE si (st.grow g) p1 fun ix F2 H2 w p2 g2 q2 => ?_
    cases e2 : r.toD with
    | none => rw [e2] at p2; exact p2.elim
    | some d =>
      rw [e2] at p2
      simp only [rsO_some, Rs.out_ok] at p2
      obtain ⟨F3, g3, s3, q3⟩ := frz (g.trans g2) (Fz.of (q1.grow g2) e2)
      cases r0 with
      | ol xs =>
        obtain ⟨a, vs, rfl, n0, f0, hp, q⟩ := ok0
        have hp3 := g3.hh _ _ hp
        have f3 := g3.stillFree f0 hp
        cases ix with
        | d y =>
          cases y with
          | int k =>
            simp only [stR] at p2
            cases e3 : ixN xs.length k with
            | none => rw [e3] at p2; exact p2.elim
            | some j =>
              rw [e3] at p2
              cases q2
              refine .inl ⟨a, vs, k, j, rfl, rfl, hp3, by rw [q.length]; exact e3, ?_⟩
              exact p2 F3 σ _ s3 ((st.grow g3).write (r1 := .ol (xs.set j d)) e1 rfl s1 hp3 n0 f3 (fun _ z => by cases z) ⟨a, _, rfl, n0, f3, upd_same, DqA.set q3 j (DqA.mono g3.ff _ _ q)⟩ rfl)
          | _ => exact p2.elim
        | _ => exact p2.elim
      | od kvs =>
        obtain ⟨a, vs, rfl, n0, f0, hp, q⟩ := ok0
        have hp3 := g3.hh _ _ hp
        have f3 := g3.stillFree f0 hp
        simp only [stR] at p2
        cases e4 : ix.sd with
        | none => rw [e4] at p2; exact p2.elim
        | some y =>
          rw [e4] at p2
          simp only [Option.bind_some] at p2
          cases e5 : keyD y with
          | none => rw [e5] at p2; exact p2.elim
          | some k =>
            rw [e5] at p2
            simp only [rsO_some, Rs.bind_ok] at p2
            split at p2
            · rename_i hz
              obtain rfl := keyD_ok (sd_ok q2 e4) e5
              refine .inr (.inl ⟨a, vs, k, rfl, rfl, hp3, by rw [q.length]; exact million hz, ?_⟩)
              exact p2 F3 σ _ s3 ((st.grow g3).write (r1 := .od (dPut kvs k d)) e1 rfl s1 hp3 n0 f3 (fun _ z => by cases z) ⟨a, _, rfl, n0, f3, upd_same, (q.mono g3.ff).put k q3⟩ rfl)
            · exact p2.elim
      | ot kvs =>
        obtain ⟨a, ⟨n, vs⟩, rfl, n0, f0, hp, q⟩ := ok0
        have hp3 := g3.hh _ _ hp
        have f3 := g3.stillFree f0 hp
        simp only [stR] at p2
        cases e4 : ix.sd with
        | none => rw [e4] at p2; exact p2.elim
        | some y =>
          rw [e4] at p2
          simp only [Option.bind_some] at p2
          cases e5 : keyTD y with
          | none => rw [e5] at p2; exact p2.elim
          | some k =>
            rw [e5] at p2
            simp only [rsO_some, Rs.bind_ok] at p2
            split at p2
            · rename_i hz
              obtain ⟨c, rfl, hc⟩ := keyTD_ok (sd_ok q2 e4) e5
              have q' : KTl X.K F3 vs kvs := q.mono g3.ff
              have hc3 := same_seqN s3 hc
              refine .inr (.inr ⟨a, c, n, vs, k, rfl, rfl, hp3, q'.keys g3.cfg.sub, same_seqT g3.cfg.sub hc3.1, by rw [q'.len]; exact million hz, fun u n' ru => ?_⟩)
              exact p2 F3 σ _ s3 ((st.grow g3).write (r1 := .ot (dPut kvs k d)) e1 rfl s1 hp3 n0 f3 DTO_tup ⟨a, (n', _), rfl, n0, f3, upd_same, q'.put k hc3 ru q3⟩ rfl)
            · exact p2.elim
      | _ => exact p2.elim
  · exact p.elim
/-- del d[k] -/
def sDel (i : Nat) (fi : VEnv → Rs RV) : VEnv → Out := fun env => match env[i]? with
  | some (some (.od kvs)) => (fi env).out env fun ix => (rsO (ix.sd.bind keyD)).out env fun k => if (dGet kvs k).isSome = true then .nx (env.set i (some (.od (dDrop kvs k)))) else .no
  | _ => .no
theorem vs_del (i : Nat) {x : Str} {ie : Expr} {p1 p2 : Pos} {fi : VEnv → Rs RV} (hi : VE ca W X ie fi) (hN : X.N[i]? = some x := by rfl) (hv : Vis X.env.scope x := by first | exact Or.inl rfl | exact Or.inr (Or.inl rfl) | exact Or.inr (Or.inr rfl)) (hd : (x == ("__debug__" : Str)) = false := by decide) (hcd : (x == ("__classdict__" : Str)) = false := by decide) :
    VS ca W X (.Delete [.Subscript (.Name x p1) ie p2] pos) (sDel i fi) := by
  obtain ⟨ti, pi, si⟩ := hi
  refine ⟨_, ps_ddel (pe_var hN hv hd hcd) pi, fun B F env σ H D st p => ?_⟩
  show ∃ v, σ[i]? = some (some v) ∧ ti σ H fun y H2 => ∃ a kvs k, v = .ref a ∧ H2 a = some (.dK kvs) ∧ y = kV k ∧ (valV kvs k).isSome = true ∧ D.nx σ (upd H2 a (.dK (dropK kvs k)))
  unfold sDel at p
  split at p
  · rename_i kvs e1
    obtain ⟨v0, s1, a, vs, rfl, n0, f0, hp, q⟩ := st.sl i _ e1
    refine ⟨_, s1, ?_⟩
    refine outE si st p fun ix F2 H2 w p2 g2 q2 => ?_
    cases e4 : ix.sd with
    | none => rw [e4] at p2; exact p2.elim
    | some y =>
      rw [e4] at p2
      simp only [Option.bind_some] at p2
      cases e5 : keyD y with
      | none => rw [e5] at p2; exact p2.elim
      | some k =>
        rw [e5] at p2
        simp only [rsO_some, Rs.out_ok] at p2
        split at p2
        · rename_i hz
          obtain rfl := keyD_ok (sd_ok q2 e4) e5
          have hp2 := g2.hh _ _ hp
          have f2 := g2.stillFree f0 hp
          have q' := q.mono g2.ff
          refine ⟨a, vs, k, rfl, hp2, rfl, ?_, ?_⟩
          · rcases q'.at k with ⟨_, h⟩ | ⟨w, d, h, _⟩
            · rw [h] at hz; cases hz
            · rw [h]; rfl
          · exact p2 F2 σ _ (Same.refl _) ((st.grow g2).write (r1 := .od (dDrop kvs k)) e1 rfl s1 hp2 n0 f2 (fun _ z => by cases z) ⟨a, _, rfl, n0, f2, upd_same, q'.drop k⟩ rfl)
        · exact p2.elim
  · exact p.elim
/-! ### d.get -/
theorem gGetDK_ok {K : PySem.W.Frag} {H0 F H : Hp} {v : V} {y : RV} {kvs : List (Key × PyData)} {o : Option PyData} (h : RVok K H0 F H v y) (e : gGetDK kvs y = .ok o) : ∃ k, v = kV k ∧ o = dGet kvs k := by
  unfold gGetDK at e
  cases e2 : y.sd with
  | none => rw [e2] at e; cases e
  | some x =>
    rw [e2] at e
    simp only [Option.bind_some] at e
    cases e3 : keyD x with
    | none => rw [e3] at e; cases e
    | some k =>
      rw [e3] at e
      simp only [rsO_some, Rs.bind_ok, Rs.ok.injEq] at e
      exact ⟨k, keyD_ok (sd_ok h e2) e3, e.symm⟩
theorem gGetDT_ok {K : PySem.W.Frag} {H0 F H : Hp} {v : V} {y : RV} {kvs : List (List Int × PyData)} {o : Option PyData} (h : RVok K H0 F H v y) (e : gGetDT kvs y = .ok o) : ∃ c ks, v = .ref c ∧ SqT K F c (ks.map V.int) ∧ o = dGet kvs ks := by
  unfold gGetDT at e
  cases e2 : y.sd with
  | none => rw [e2] at e; cases e
  | some x =>
    rw [e2] at e
    simp only [Option.bind_some] at e
    cases e3 : keyTD x with
    | none => rw [e3] at e; cases e
    | some k =>
      rw [e3] at e
      simp only [rsO_some, Rs.bind_ok, Rs.ok.injEq] at e
      obtain ⟨c, rfl, hc⟩ := keyTD_ok (sd_ok h e2) e3
      exact ⟨c, k, rfl, hc.1, e.symm⟩
theorem gGetDK_ex {y : RV} {kvs : List (Key × PyData)} {c : Nat} {fs : List (Str × PyData)} : gGetDK kvs y ≠ .ex c fs := fun e => by
  unfold gGetDK at e
  cases e2 : y.sd.bind keyD <;> rw [e2] at e <;> cases e
theorem gGetDT_ex {y : RV} {kvs : List (List Int × PyData)} {c : Nat} {fs : List (Str × PyData)} : gGetDT kvs y ≠ .ex c fs := fun e => by
  unfold gGetDT at e
  cases e2 : y.sd.bind keyTD <;> rw [e2] at e <;> cases e
def cGet1 (fa fb : VEnv → Rs RV) : VEnv → Rs RV := fun env => (fa env).bind fun x => match x.dk with
  | some kvs => (fb env).bind fun y => (gGetDK kvs y).bind fun o => .ok (.d (o.getD .none))
  | none => (match x.dt with
    | some kvs => (fb env).bind fun y => (gGetDT kvs y).bind fun o => .ok (.d (o.getD .none))
    | none => .no)
def cGet2 (fa fb fc : VEnv → Rs RV) : VEnv → Rs RV := fun env => (fa env).bind fun x => match x.dk with
  | some kvs => (fb env).bind fun y => (fc env).bind fun z => (rsO z.sd).bind fun d => (gGetDK kvs y).bind fun o => .ok (.d (o.getD d))
  | none => (match x.dt with
    | some kvs => (fb env).bind fun y => (fc env).bind fun z => (rsO z.sd).bind fun d => (gGetDT kvs y).bind fun o => .ok (.d (o.getD d))
    | none => .no)
theorem ve_get1 (hu : X.A.units + 1 < cLine) (ha : VE ca W X a fa) (hb : VE ca W X b fb) (m : M1 X a "get" apos b cpos) : VE ca W X (.Call (.Attribute a "get" apos) [b] [] cpos) (cGet1 fa fb) := by
  obtain ⟨ta, pa, sa⟩ := ha
  obtain ⟨tb, pb, sb⟩ := hb
  refine ⟨_, pe_get1 hu pa pb m, fun B F env σ H Q st p => ?_⟩
  unfold tGet1
  refine seqE (PostE X.K ca W σ F H Q) sa st p (fun _ _ h => h) (fun h => h) fun x F1 H1 v1 p1 g1 q1 => ?_
  cases e1 : x.dk with
  | some kvs =>
    rw [e1] at p1
    obtain ⟨p', xs, rfl, hp, kd⟩ := dk_ok q1 e1
    refine ⟨p', rfl, .inl ⟨.inl ⟨xs, hp⟩, ?_⟩⟩
    refine seqE (PostE X.K ca W σ F H Q) sb (st.grow g1) p1 (fun _ _ h => PostX.mono g1 h) (fun h => h) fun y F2 H2 v2 p2 g2 q2 => ?_
    cases e : gGetDK kvs y with
    | no => rw [e] at p2; exact p2.elim
    | ex c fs => exact absurd e gGetDK_ex
    | ok o =>
      rw [e] at p2
      obtain ⟨k, rfl, rfl⟩ := gGetDK_ok q2 e
      refine ⟨_, dgetR (rd_same g2.hh hp), ?_⟩
      rcases (kd.mono g2.ff).at k with ⟨h1, h2⟩ | ⟨w, d, h1, h2, dq⟩
      · rw [h2] at p2; rw [h1]; exact p2 F2 H2 _ (g1.trans g2) .non
      · rw [h2] at p2; rw [h1]; exact p2 F2 H2 _ (g1.trans g2) dq
  | none =>
    rw [e1] at p1
    cases e4 : x.dt with
    | none => rw [e4] at p1; exact p1.elim
    | some kvs =>
      rw [e4] at p1
      obtain ⟨p', n, xs, rfl, hp, kd⟩ := dt_ok q1 e4
      refine ⟨p', rfl, .inr ⟨n, xs, hp, kd.keys g1.cfg.sub, ?_⟩⟩
      refine seqE (PostE X.K ca W σ F H Q) sb (st.grow g1) p1 (fun _ _ h => PostX.mono g1 h) (fun h => h) fun y F2 H2 v2 p2 g2 q2 => ?_
      cases e : gGetDT kvs y with
      | no => rw [e] at p2; exact p2.elim
      | ex c fs => exact absurd e gGetDT_ex
      | ok o =>
        rw [e] at p2
        obtain ⟨c, k, rfl, hc, rfl⟩ := gGetDT_ok q2 e
        have kd2 := kd.mono g2.ff
        rcases kd2.at k with ⟨h1, h2⟩ | ⟨q, d, w, h1, h2, rw', dq⟩
        · rw [h2] at p2
          exact ⟨c, k, .non, rfl, g2.hh _ _ hp, kd2.keys g2.cfg.sub, same_seqT g2.cfg.sub hc, by rw [h1]; rfl, p2 F2 H2 _ (g1.trans g2) .non⟩
        · rw [h2] at p2
          exact ⟨c, k, w, rfl, g2.hh _ _ hp, kd2.keys g2.cfg.sub, same_seqT g2.cfg.sub hc, by rw [h1]; exact rw', p2 F2 H2 _ (g1.trans g2) dq⟩
theorem ve_get2 {c : Expr} (hu : X.A.units + 1 < cLine) (ha : VE ca W X a fa) (hb : VE ca W X b fb) (hc : VE ca W X c fc) (m : M2 X a "get" apos b c cpos) : VE ca W X (.Call (.Attribute a "get" apos) [b, c] [] cpos) (cGet2 fa fb fc) := by
  obtain ⟨ta, pa, sa⟩ := ha
  obtain ⟨tb, pb, sb⟩ := hb
  obtain ⟨tc, pc, sc⟩ := hc
  refine ⟨_, pe_get2 hu pa pb pc m, fun B F env σ H Q st p => ?_⟩
  unfold tGet2
  refine seqE (PostE X.K ca W σ F H Q) sa st p (fun _ _ h => h) (fun h => h) fun x F1 H1 v1 p1 g1 q1 => ?_
  cases e1 : x.dk with
  | some kvs =>
    rw [e1] at p1
    obtain ⟨p', xs, rfl, hp, kd⟩ := dk_ok q1 e1
    refine ⟨p', rfl, .inl ⟨.inl ⟨xs, hp⟩, ?_⟩⟩
    refine seqE (PostE X.K ca W σ F H Q) sb (st.grow g1) p1 (fun _ _ h => PostX.mono g1 h) (fun h => h) fun y F2 H2 v2 p2 g2 q2 => ?_
    refine seqE (PostE X.K ca W σ F H Q) sc ((st.grow g1).grow g2) p2 (fun _ _ h => PostX.mono (g1.trans g2) h) (fun h => h) fun z F3 H3 v3 p3 g3 q3 => ?_
    cases ez : z.sd with
    | none => rw [ez] at p3; exact p3.elim
    | some dz =>
    rw [ez] at p3
    simp only [rsO_some, Rs.bind_ok] at p3
    have dqz := sd_ok q3 ez
    cases e : gGetDK kvs y with
    | no => rw [e] at p3; exact p3.elim
    | ex c fs => exact absurd e gGetDK_ex
    | ok o =>
      rw [e] at p3
      obtain ⟨k, rfl, rfl⟩ := gGetDK_ok q2 e
      refine ⟨_, dgetR (rd_same (g2.trans g3).hh hp), ?_⟩
      rcases (kd.mono (g2.trans g3).ff).at k with ⟨h1, h2⟩ | ⟨w, d, h1, h2, dq⟩
      · rw [h2] at p3; rw [h1]; exact p3 F3 H3 _ ((g1.trans g2).trans g3) dqz
      · rw [h2] at p3; rw [h1]; exact p3 F3 H3 _ ((g1.trans g2).trans g3) dq
  | none =>
    rw [e1] at p1
    cases e4 : x.dt with
    | none => rw [e4] at p1; exact p1.elim
    | some kvs =>
      rw [e4] at p1
      obtain ⟨p', n, xs, rfl, hp, kd⟩ := dt_ok q1 e4
      refine ⟨p', rfl, .inr ⟨n, xs, hp, kd.keys g1.cfg.sub, ?_⟩⟩
      refine seqE (PostE X.K ca W σ F H Q) sb (st.grow g1) p1 (fun _ _ h => PostX.mono g1 h) (fun h => h) fun y F2 H2 v2 p2 g2 q2 => ?_
      refine seqE (PostE X.K ca W σ F H Q) sc ((st.grow g1).grow g2) p2 (fun _ _ h => PostX.mono (g1.trans g2) h) (fun h => h) fun z F3 H3 v3 p3 g3 q3 => ?_
      cases ez : z.sd with
      | none => rw [ez] at p3; exact p3.elim
      | some dz =>
      rw [ez] at p3
      simp only [rsO_some, Rs.bind_ok] at p3
      have dqz := sd_ok q3 ez
      cases e : gGetDT kvs y with
      | no => rw [e] at p3; exact p3.elim
      | ex c fs => exact absurd e gGetDT_ex
      | ok o =>
        rw [e] at p3
        obtain ⟨c, k, rfl, hc, rfl⟩ := gGetDT_ok (q2.grow g3) e
        have kd2 := kd.mono (g2.trans g3).ff
        have hp3 := (g2.trans g3).hh _ _ hp
        rcases kd2.at k with ⟨h1, h2⟩ | ⟨q, d, w, h1, h2, rw', dq⟩
        · rw [h2] at p3
          exact ⟨c, k, v3, rfl, hp3, kd2.keys g3.cfg.sub, same_seqT g3.cfg.sub hc, fun u ru => by rw [h1]; exact ru, p3 F3 H3 _ ((g1.trans g2).trans g3) dqz⟩
        · rw [h2] at p3
          exact ⟨c, k, w, rfl, hp3, kd2.keys g3.cfg.sub, same_seqT g3.cfg.sub hc, fun u ru => by rw [h1]; exact rw', p3 F3 H3 _ ((g1.trans g2).trans g3) dq⟩
/-! ### reckoning -/
variable (f : VEnv → Out) (env : VEnv) (i : Nat) (x y : PyData) (kvs : List (Key × PyData)) (kts : List (List Int × PyData))
theorem e_aug (g : RV → RV → Rs RV) : sAug i g fa env = match env[i]? with
  | some (some r0) => (fa env).out env fun r => (g r0.bor r).out env fun z => putS i z env
  | _ => .no := rfl
theorem e_decT {h : Decidable True} : @decide True h = true := by simp
theorem e_decF {h : Decidable False} : @decide False h = false := by simp
theorem e_cDispS (x y z w : Str) : cDispS x y z w env = .ok (.od [(.inr x, .str y), (.inr z, .str w)]) := rfl
theorem e_cDT : cDT env = .ok (.ot []) := rfl
theorem e_cDK : cDK env = .ok (.od []) := rfl
theorem e_cDisp1 : cDisp1 fa fb env = (fa env).bind fun x => (fb env).bind fun y => (rsO (x.sd.bind keyTD)).bind fun k => (rsO y.toD).bind fun d => .ok (.ot [(k, d)]) := rfl
theorem e_storeA (fi fe : VEnv → Rs RV) : sStoreA i fi fe env = match env[i]? with
  | some (some r0) => (fe env).out env fun r => (fi env).out env fun ix => (rsO r.toD).out env fun d => (stR r0 ix d).out env fun r1 => .nx (env.set i (some r1))
  | _ => .no := rfl
theorem e_stR1 (xs : List PyData) (k : Int) : stR (.ol xs) (.d (.int k)) x = (rsO (ixN xs.length k)).bind fun j => .ok (.ol (xs.set j x)) := rfl
theorem e_stR2 (r : RV) : stR (.od kvs) r x = (rsO (r.sd.bind keyD)).bind fun k => if kvs.length ≤ 1000000 then .ok (.od (dPut kvs k x)) else .no := rfl
theorem e_stR3 (r : RV) : stR (.ot kts) r x = (rsO (r.sd.bind keyTD)).bind fun k => if kts.length ≤ 1000000 then .ok (.ot (dPut kts k x)) else .no := rfl
theorem e_sd1 : (RV.d x).sd = some x := rfl
theorem e_keyD1 (k : Int) : keyD (.int k) = some (.inl k) := rfl
theorem e_keyD2 (k : Str) : keyD (.str k) = some (.inr k) := rfl
theorem e_keyTD (xs : List PyData) : keyTD (.tuple xs) = intsD xs := rfl
theorem e_intsD (ns : List Int) : intsD (ns.map .int) = some ns := intsD_map ns
theorem e_intsD0 : intsD [] = some [] := rfl
theorem e_borT : (RV.ot kts).bor = .bt kts := rfl
theorem e_borT2 : (RV.bt kts).bor = .bt kts := rfl
theorem e_borK : (RV.od kvs).bor = .bd kvs := rfl
theorem e_borK2 : (RV.bd kvs).bor = .bd kvs := rfl
theorem e_argT : (RV.ot kts).arg = .bt kts := rfl
theorem e_argT2 : (RV.bt kts).arg = .bt kts := rfl
theorem e_argK : (RV.od kvs).arg = .bd kvs := rfl
theorem e_argK2 : (RV.bd kvs).arg = .bd kvs := rfl
theorem e_nbT : (RV.ot kts).nb = .ok (.ot kts) := rfl
theorem e_nbK : (RV.od kvs).nb = .ok (.od kvs) := rfl
theorem e_putT : putS i (.ot kts) env = if i < env.length then .nx (env.set i (some (.ot kts))) else .no := rfl
theorem e_putK : putS i (.od kvs) env = if i < env.length then .nx (env.set i (some (.od kvs))) else .no := rfl
theorem e_gAt1 (b : RV) : gAt (.bt kts) b = gGetDT kts b := rfl
theorem e_gAt2 (b : RV) : gAt (.bd kvs) b = gGetDK kvs b := rfl
theorem e_gAt3 (b : RV) : gAt (.od kvs) b = gGetDK kvs b := rfl
theorem e_gAt4 (b : RV) : gAt (.ot kts) b = gGetDT kts b := rfl
theorem e_gGetDK (b : RV) : gGetDK kvs b = (rsO (b.sd.bind keyD)).bind fun k => .ok (dGet kvs k) := rfl
theorem e_gGetDT (b : RV) : gGetDT kts b = (rsO (b.sd.bind keyTD)).bind fun k => .ok (dGet kts k) := rfl
theorem e_gIxD (a b : RV) : gIxD a b = (gAt a b).bind fun o => (rsO o).bind fun d => .ok (.d d) := rfl
theorem e_gInD (a b : RV) : gInD a b = (gAt b a).bind fun o => okB o.isSome := rfl
theorem e_gNotInD (a b : RV) : gNotInD a b = (gAt b a).bind fun o => okB (!o.isSome) := rfl
theorem e_cGet1 : cGet1 fa fb env = (fa env).bind fun x => match x.dk with
  | some kvs => (fb env).bind fun y => (gGetDK kvs y).bind fun o => .ok (.d (o.getD .none))
  | none => (match x.dt with
    | some kvs => (fb env).bind fun y => (gGetDT kvs y).bind fun o => .ok (.d (o.getD .none))
    | none => .no) := rfl
theorem e_cGet2 : cGet2 fa fb fc env = (fa env).bind fun x => match x.dk with
  | some kvs => (fb env).bind fun y => (fc env).bind fun z => (rsO z.sd).bind fun d => (gGetDK kvs y).bind fun o => .ok (.d (o.getD d))
  | none => (match x.dt with
    | some kvs => (fb env).bind fun y => (fc env).bind fun z => (rsO z.sd).bind fun d => (gGetDT kvs y).bind fun o => .ok (.d (o.getD d))
    | none => .no) := rfl
theorem e_dk1 : (RV.bd kvs).dk = some kvs := rfl
theorem e_dk2 : (RV.od kvs).dk = some kvs := rfl
theorem e_dk3 : (RV.bt kts).dk = none := rfl
theorem e_dk4 : (RV.ot kts).dk = none := rfl
theorem e_dt1 : (RV.bt kts).dt = some kts := rfl
theorem e_dt2 : (RV.ot kts).dt = some kts := rfl
theorem e_del (fi : VEnv → Rs RV) : sDel i fi env = match env[i]? with
  | some (some (.od kvs)) => (fi env).out env fun ix => (rsO (ix.sd.bind keyD)).out env fun k => if (dGet kvs k).isSome = true then .nx (env.set i (some (.od (dDrop kvs k)))) else .no
  | _ => .no := rfl
end
end VL

namespace VL
open PySem PySem.Spec PyProof.Rows L2

/-! ## an own exception class: super().__init__(e), fields -/
theorem lookup_mem {l : List (Str × Value)} {y : Str} {u : Value} (nd : (l.map (·.1)).Nodup) (h : (y, u) ∈ l) : l.lookup y = some u := by
  induction l with
  | nil => cases h
  | cons p l ih =>
    obtain ⟨x, v⟩ := p
    rw [List.map_cons, List.nodup_cons] at nd
    rcases List.mem_cons.mp h with e | h
    · cases e; simp [List.lookup]
    · have ne : y ≠ x := fun z => nd.1 (z ▸ List.mem_map_of_mem (f := (·.1)) h)
      have e : (y == x) = false := by simpa using ne
      simp only [List.lookup, e]
      exact ih nd.2 h
theorem lookup_zip {ps : List Str} {us : List Value} {i : Nat} {y : Str} {u : Value} (nd : ps.Nodup) (hl : us.length = ps.length) (h1 : ps[i]? = some y) (h2 : us[i]? = some u) : (ps.zip us).reverse.lookup y = some u := by
  refine lookup_mem ?_ (List.mem_reverse.mpr ?_)
  · rw [List.map_reverse, List.map_fst_zip (by omega)]; unfold List.Nodup; rw [List.pairwise_reverse]; exact nd.imp fun h => Ne.symm h
  · have : (ps.zip us)[i]? = some (y, u) := by rw [List.getElem?_zip_eq_some]; exact ⟨h1, h2⟩
    exact List.mem_of_getElem? this

abbrev envI (qual : Str) (scope : Scope) (L f : Addr) (cdv : Value) (cc : Addr) : Env := PySem.W.ksEnv qual scope L f cdv cc
def cxI (CX : CXT) (P : Program) (w : World) (K : PySem.W.Frag) (mg : Str → Option Value) (base : Heap) (N : List Str) (qual : Str) (scope : Scope) (f : Addr) (cd : Value) (cc : Addr) (A : Around) (outer : List Env) (s : Shared) (H : Hp) (E : XK) : Cx where
  prog := P
  w := w
  K := K
  mg := mg
  base := base
  A := A.deeper (envI qual scope s.heap.objs.size f cd cc)
  N := N
  s_0 := s
  H_0 := H
  env := envI qual scope s.heap.objs.size f cd cc
  outer := outer
  stack := envI qual scope s.heap.objs.size f cd cc :: outer
  ex := []
  calm := true
  fn := fun x => x != "__class__"
  pn := []
  xe := fun e s' => wpAny (model P w) (A.deeper (envI qual scope s.heap.objs.size f cd cc)) (leaving (envI qual scope s.heap.objs.size f cd cc) e) (fun _ s'' => CX outer H s E e s'') (fun e' s'' => CX outer H s E e' s'') s'

structure IniS (N ps : List Str) (sc : Scope) : Prop where
  kind : sc.kind = .function
  co : sc.isCoroutine = false
  gen : sc.isGenerator = false
  nd : N.Nodup
  pre : N.take ps.length = ps
  par : ∀ x ∈ ps, sc.names.lookup x = some .local
  nocell : ∀ y ∈ sc.names, y.2 ≠ .cell
  free : ∀ y ∈ sc.names, y.2 = .free → y.1 = ("__class__" : Str)
  sup : sc.names.lookup ("super" : Str) = some .globalImplicit
  cls : sc.names.lookup ("__class__" : Str) = some .free

structure IniF (P : Program) (K : PySem.W.Frag) (mg : Str → Option Value) (C fI : Addr) (name qual : Str) (params : Arguments) (body : List Stmt) (scope : Scope) (fd : FuncData) (cc : Addr) (cdv : Value) : Prop where
  oex : OexC K C
  fn : ∃ (dV kV doc pm : Value) (an : Option Addr) (ct oc : Value) (od : Option Addr) (osl : Array (Option Value)), fd = PySem.W.ksFn name qual params body scope dV kV doc pm an cdv ct cc ∧ K.lookup fI = some ⟨oc, od, .func fd, osl⟩
  code : PySem.W.codeIn K cdv qual = true
  codeO : ∃ (cda : Addr) (ccl : Value) (cdd : Option Addr) (vs : Array Value) (ccs : Array (Option Value)) (file : Str) (tf : Tok), cdv = .ref cda ∧ K.lookup cda = some ⟨ccl, cdd, .fields vs, ccs⟩ ∧ vs[2]? = some (.str file tf) ∧ ((P.main.file : Str) == file) = true
  cell : ∃ (cl : Value) (cld : Option Addr) (csl : Array (Option Value)), K.lookup cc = some ⟨cl, cld, .cell (some (.ref C)), csl⟩
  sup : ∃ (cd cdT : ClassData) (T : Addr), PySem.W.clsIn K C = some cd ∧ PySem.W.clsIn K T = some cdT ∧ cd.mro = .ref C :: cdT.mro ∧ PySem.W.findIn K (.ref T) "__init__" = some (some (.builtin "ValueError.__init__"))
  subV : PySem.W.subIn K (.ref C) (.type "ValueError") = some true
  opq : PySem.W.nsIn K PySem.cStatics "thirdparty.any" = some none
  nsup : mg "super" = none
  top : (P.main.scope.names.lookup ("super" : Str)).isSome = false

theorem invI {CX : CXT} {P : Program} {w : World} {K : PySem.W.Frag} {mg : Str → Option Value} {base : Heap} {N ps : List Str} {qual : Str} {scope : Scope} {f cc : Addr} {cd : Value} {A : Around} {outer : List Env} {s : Shared} {h₀ : Heap} {t' : Nat} {H : Hp} {E : XK} {us : List Value} {vs : List V} {c : Value}
    (S : IniS N ps scope) (hd : A.handled = none) (e0 : Env0 P w K mg base A outer s H) (hl : vs.length = ps.length) (r : Vals vs us) (hcell : ∃ o, K.lookup cc = some o ∧ o.data = .cell (some c))
    (ns : h₀.Ns s.heap.objs.size (fun x => (ps.zip us).reverse.lookup x)) (hk : ∀ b o, s.heap.get? b = some o → h₀.get? b = some o) :
    Inv (cxI CX P w K mg base N qual scope f cd cc A outer s H E) [] (start N vs) H { s with heap := h₀, toks := t' } := by
  have hpl : ps.length ≤ N.length := by have := congrArg List.length S.pre; rw [List.length_take] at this; omega
  have noA : ∀ b : Addr, b ∉ (cxI CX P w K mg base N qual scope f cd cc A outer s H E).ex := fun b z => absurd (show b ∈ ([] : List Addr) from z) (by simp)
  obtain ⟨oc, hoc, hcd⟩ := hcell
  have hb : base.get? cc = some oc := e0.mod.kin _ _ hoc
  have onlyC : ∀ {x : Str} {b : Addr}, (cxI CX P w K mg base N qual scope f cd cc A outer s H E).env.cells.lookup x = some b → x = ("__class__" : Str) ∧ b = cc := fun {x b} h => by
    have h' : List.lookup x [(("__class__" : Str), cc)] = some b := h
    by_cases e : x = ("__class__" : Str)
    · subst e
      simp [List.lookup] at h'
      exact ⟨rfl, h'.symm⟩
    · have e' : (x == ("__class__" : Str)) = false := by simpa using e
      simp [List.lookup, e'] at h'
  refine ⟨⟨e0.mod, S.kind, rfl, rfl, Nat.le_refl _, fun y z b h1 h2 => ?_, fun y hy => ?_, fun y b hy h => ?_, fun _ => hd, Around.frames_deeper e0.frames, .inr ⟨rfl, rfl⟩, fun b z => absurd z (noA b), e0.bs, e0.bsz, fun b _ _ => noA b, fun b z => absurd z (noA b), e0.funs, e0.frf⟩,
    rfl, e0.bare, Un.kept hk, ⟨_, ns, fun i y v h1 h2 h3 => ?_⟩, fun y b h => ?_, e0.hok.fresh (Nat.le_refl _), fun y b h => ?_, fun p hp => absurd (show p ∈ ([] : List (Addr × Obj)) from hp) (by simp), e0.hok.kept hk, ?_⟩
  · exact (onlyC h1).1.trans (onlyC h2).1.symm
  · have hy : scope.names.lookup y = some .cell ∨ scope.names.lookup y = some .free := hy
    rcases hy with hy | hy
    · exact absurd rfl (S.nocell _ (PySem.mem_of_lookup hy))
    · have := S.free _ (PySem.mem_of_lookup hy) rfl
      exact ⟨cc, by subst this; rfl⟩
  · have := (onlyC h).1
    subst this
    have hy' : ((("__class__" : Str)) != (("__class__" : Str))) = true := hy
    exact absurd hy' (by decide)
  · have hi : i < vs.length := by
      unfold L2.start at h2
      by_cases hi : i < vs.length
      · exact hi
      · rw [List.getElem?_append_right (by simpa using hi)] at h2
        rw [List.getElem?_replicate] at h2
        split at h2 <;> cases h2
    have ha : vs[i]? = some v := by
      unfold L2.start at h2
      rw [List.getElem?_append_left (by simpa using hi), List.getElem?_map] at h2
      cases e : vs[i]? with
      | none => rw [e] at h2; cases h2
      | some a => rw [e] at h2; cases h2; rfl
    obtain ⟨u, hu, rv⟩ := r.get ha
    have hp : ps[i]? = some y := by
      rw [← S.pre, List.getElem?_take_of_lt (by omega)]; exact h1
    have ndP : ps.Nodup := by rw [← S.pre]; exact S.nd.sublist (List.take_sublist _ _)
    exact ⟨u, rv, .inl ⟨S.par y (List.mem_of_getElem? hp), lookup_zip ndP (by rw [← Paired.length r, hl]) hp hu⟩⟩
  · obtain ⟨rfl, rfl⟩ := onlyC h
    exact ⟨_, _, hk _ _ ((e0.bs _ _ hb).1), hcd⟩
  · obtain ⟨rfl, rfl⟩ := onlyC h
    exact (e0.bs _ _ hb).2
  · unfold L2.start
    show _ = N.length
    rw [List.length_append, List.length_map, List.length_replicate]
    omega
end VL

namespace VL
open PySem PySem.Spec PyProof.Rows L2
section
open PySem.W PySem.Calls
variable {prog : Program} {w : World} {A : Around} {E : Value → Shared → Prop} {h : Heap} {g : Array GenState} {d : Drawn} {t : Nat} {os : OsState}
variable {nm q : Str} {C N : Addr} {bs bm : List Value} {hdct : Bool} {sn : List Str} {sub : List Value} {ab : Bool} {col : Option Bool} {dd : Option Addr} {k0 k1 k2 k3 k5 : Option Value}
theorem call_mw {u e t0 : Addr} {rest : List Value} {Q : Value → Shared → Prop}
    (hC : h.get? C = some (excClassObj nm q C N bs bm hdct sn sub ab col dd k0 k1 k2 k3 k5 "ValueError.__new__")) (he : h.get? e = some (HandSPX.excO C t0)) (hu : h.get? u = some (kxs_mw "ValueError.__init__" e)) (hrest : rest.length ≤ sizeLine)
    (hq : ∀ h' t1, (∀ b o, b ≠ e → h.get? b = some o → h'.get? b = some o) → h'.get? e = some (HandSPX.excO C t1) → Q .none ⟨h', g, d, t, os⟩) :
    wpAny (model prog w) A (call (.ref u) rest) Q E ⟨h, g, d, t, os⟩ := by
  refine wpAny_call (codeAny_of_tree ?_)
  show wpAny _ A.in1 (callAny (.ref u) ⟨rest, []⟩) _ _ _
  simp only [callAny]
  refine wpAny_bind (wpAny_load hu ?_)
  simp only [kxs_mw, show (Value.type "method-wrapper" == Value.type "method" || Value.type "method-wrapper" == Value.type "builtin_function_or_method" || Value.type "method-wrapper" == Value.type "method-wrapper") = true by decide, if_true]
  refine KFB.if_so (by decide) ?_
  refine wpAny_bind (ESX.check_bound F.excBase_ValueError hC he rfl ?_)
  refine wpAny_bind (wpAny_pure (wpAny_pure ?_))
  refine ⟨Code.quiet_builtin _ (by decide +kernel), codeAny_builtin F.excBase_ValueError.initEntry ?_⟩
  rw [Around.under_plainId F.excBase_ValueError.init.plain _]
  wp_walk
  refine hq _ h.objs.size (fun b o hb ho => ?_) ?_
  · rw [Heap.get?_update_other _ _ (Ne.symm hb)]
    exact Heap.get?_push_of_some _ ho
  · rw [Heap.get?_update_self _ (Heap.get?_push_of_some _ he) rfl]
    rfl
end
section
open PySem.W
variable {X : Cx} {pins : List (Addr × Obj)} {σ : L2.St} {H : Hp} {s : Shared} {C fI : Addr} {name qual : Str} {params : Arguments} {body : List Stmt} {scope : Scope} {fd : FuncData} {cc : Addr} {cdv : Value}
theorem boot_super : bootBuiltins "super" = some (.type "super") := by first | rfl | kernel_rfl
/-- super().__init__(e): nothing of it is told -/
theorem super_ok {L a : Addr} {ar : Arg} {e : Expr} {p0 p1 p2 p3 : Pos} {te : TE} {pl : Sem Bool} {Q : Value → Shared → Prop} {E : Value → Shared → Prop}
    (T : IniF X.prog X.K X.mg C fI name qual params body scope fd cc cdv) (hX : X.env = envI qual scope L fI cdv cc) (hA : X.env.kindOf ("super" : Str) = some .globalImplicit) (hcl : X.env.kindOf ("__class__" : Str) = some .free) (hpar : (params.posonlyargs ++ params.args).head? = some ar)
    (hself : X.N[0]? = some ar.arg) (hloc : X.env.kindOf ar.arg = some .local) (I : Inv X pins σ H s) (hσ : σ[0]? = some (some (V.ref a))) (ha : H a = some (exo a C none)) (pe : PE X e te) (hte : ∀ Q : VK, (∀ v, Q v H) → te σ H Q)
    (hq : ∀ s', Inv X pins σ H s' → Q .none s') (hE : E = X.xe)
    (hev : eval (.Call (.Attribute (.Call (.Name "super" p0) [] [] p1) "__init__" p2) [e] [] p3) X.env = (do
      let ov ← attributeBase (.Call (.Name "super" p0) [] [] p1) "__init__" X.env (eval (.Call (.Name "super" p0) [] [] p1) X.env)
      standAt p2.atName
      let (f, first) ← holding [ov] (getMethod ov "__init__" pl)
      callWith p3 f first (backTo p3 (starEach [e] X.env)) []))
    (he : starEach [e] X.env = (false, eval e X.env) :: starEach [] X.env) (hpl : (backTo p3 (starEach [] X.env)).any (·.1) = false) :
    _root_.PySem.wpAt (model X.prog X.w) X.A (.func body X.env) (eval (.Call (.Attribute (.Call (.Name "super" p0) [] [] p1) "__init__" p2) [e] [] p3) X.env) Q E s := by
  subst hE
  obtain ⟨nm, q, N, bs, bm, sn, sub, ab, col, dd, k0, k1, k2, k3, k5, hC, hbm⟩ := T.oex.cls
  obtain ⟨dV, kV, doc, pm, an, ct, oc, od, osl, rfl, lk⟩ := T.fn
  obtain ⟨cda, ccl, cdd, vs, ccs, file, tf, rfl, lkc, hvs, hfile⟩ := T.codeO
  obtain ⟨cl, cld, csl, lkcell⟩ := T.cell
  obtain ⟨cd, cdT, TT, hcd, hcdT, hmro, hfind⟩ := T.sup
  refine ks_wpAt_MethodCall (pl := pl) ?_ hev
  refine ks_wpAt_super_base (env := X.env) hA hcl rfl (by rw [hX]) (I.kIn _ _ lk) rfl hpar (by rw [hX]) (I.kIn _ _ lkc) rfl hvs hfile T.top ?_
  obtain ⟨mb, h1, h2⟩ := I.mod.blt
  refine ks_loadName_global I.ok.kind hA (PySem.Calls.loadGlobal_builtin (by rw [I.ok.glob]; exact I.mod.glob.keeps I.bk) T.nsup (by rw [I.ok.blt]; exact h1.keeps I.bk) ((h2 "super" (by decide)).trans boot_super) ⟨rfl, ?_⟩)
  refine wpAny_loadName_free I.ok.kind hcl (by rw [hX]; rfl) ⟨_, I.kIn _ _ lkcell, rfl⟩ ?_
  obtain ⟨m, hn, hlk⟩ := I.loc
  obtain ⟨u, ru, look⟩ := hlk 0 ar.arg (.ref a) hself hσ (.inl hloc)
  obtain rfl : u = Value.ref a := ru
  have hm : m ar.arg = some (Value.ref a) := by
    rcases look with ⟨_, z⟩ | ⟨z, _⟩
    · exact z
    · rw [hloc] at z
      rcases z with z | z <;> cases z
  refine wpAny_loadName_local I.ok.kind hloc hn hm ?_
  obtain ⟨t1, hae⟩ := exo_at I.hok ha
  have fr : ∀ {b : Addr} {s1 : Shared}, Inv X pins σ H s1 → b ∈ X.fs → ∃ o, s1.heap.get? b = some o := fun {b s1} J hb => by
    obtain ⟨_, o, ho, _⟩ := J.ok.funs.mem hb
    exact J.base.there b o ho (fun z => J.ok.exfs b z hb)
  obtain ⟨hh, g, d, t, os⟩ := s
  refine ks_wpAny_isType_cls (I.kIn _ _ hC) rfl ⟨rfl, ?_⟩
  have hsub : mroIn X.K C (.ref C) = some true := by
    unfold mroIn
    rw [hcd, Option.bind_some, hmro]
    simp
  refine ks_wpAny_call_super (I.kIn _ _ hC) rfl hae rfl (fun c z => by cases z) (looks_mroIn I.kIn hsub) (fun h' hso k => ?_)
  have I1 : Inv X pins σ H ⟨h', g, d, t, os⟩ := I.kept (t' := t) k
  obtain ⟨t2, hae1⟩ := exo_at I1.hok ha
  have IA : InstAt h' a ({ cls := .ref C, dict := none, data := .fields #[.ref t2, .none, .none, .none, .bool false, .none] } : Obj) C none := ⟨hae1, rfl, rfl, trivial⟩
  refine kxs_getMethod kxs_ValueError hso (looks_opaque I1.kIn T.opq) (l₀ := cd.mro) (fun A Q E s k q => wpAny_bind ((looks_clsIn I1.kIn hcd) A _ E s k (wpAny_pure q))) (l := cdT.mro) (by rw [hmro]; exact ESX.drop_own _ _) I1.kIn ?_ (IA.type.andThen (looks_subIn I1.kIn T.subV)) (ks_ne I1.kIn IA hcd) (by decide) ?_
  · unfold findIn at hfind
    unfold clsIn at hcdT
    split at hcdT
    · rename_i c' d' cd' sl' ho
      cases hcdT
      dsimp only at hfind
      rw [ho] at hfind
      exact hfind
    · cases hcdT
  have kp : ∀ b o, h'.get? b = some o → (h'.push (kxs_mw "ValueError.__init__" a)).get? b = some o := fun b o e => Heap.get?_push_of_some _ e
  have I2 : Inv X pins σ H ⟨h'.push (kxs_mw "ValueError.__init__" a), g, d, t + 1, os⟩ := I1.kept (t' := t + 1) kp
  have hu : (h'.push (kxs_mw "ValueError.__init__" a)).get? h'.objs.size = some (kxs_mw "ValueError.__init__" a) := Heap.get?_push_at rfl rfl
  have I3 : Inv X ((h'.objs.size, kxs_mw "ValueError.__init__" a) :: pins) σ H ⟨h'.push (kxs_mw "ValueError.__init__" a), g, d, t + 1, os⟩ := I2.pins_of fun p hp => by
    rcases List.mem_cons.mp hp with rfl | hp
    · refine ⟨hu, I1.hok.fresh (Nat.le_refl _), fun z => ?_, fun z => ?_, fun v z => by cases z⟩
      · obtain ⟨_, ⟨oL, _, _, hoL, _⟩, _⟩ := I1.loc
        have := Heap.lt_size (show h'.get? X.env.locals = some oL from hoL)
        have z' : h'.objs.size = X.env.locals := z
        rw [← z'] at this
        exact Nat.lt_irrefl _ this
      · obtain ⟨o, ho⟩ := fr I1 z
        exact absurd (Heap.lt_size (show h'.get? h'.objs.size = some o from ho)) (Nat.lt_irrefl _)
    · exact I2.pin p (List.mem_append_right _ hp)
  show wpAny _ X.A (callWith p3 (.ref h'.objs.size) [] (backTo p3 (starEach [e] X.env)) []) Q X.xe _
  have pa := pa_cons pe pa_nil he
  refine kxs_callWith (i := "ValueError.__init__") (x := a) (by rw [he]; show (false || (backTo p3 (starEach [] X.env)).any (·.1)) = false; rw [hpl]; rfl) ?_
  have run := pa.run p3 ((h'.objs.size, kxs_mw "ValueError.__init__" a) :: pins) _ σ H (fun vs H1 => vs.length = 1 ∧ H1 = H) I3 (hte _ fun v => ⟨rfl, rfl⟩)
  rw [he] at run ⊢
  refine PySem.Calls.evalArgs_plain (wpAny_mono run (fun us s1 hs => ?_) fun _ _ z => z)
  obtain ⟨ws, H1, J1, r1, hlen, rfl⟩ := hs
  obtain ⟨hu1, _⟩ := J1.pin (h'.objs.size, kxs_mw "ValueError.__init__" a) (List.mem_append_right _ List.mem_cons_self)
  refine ⟨hu1, ?_⟩
  obtain ⟨t3, hae3⟩ := exo_at J1.hok ha
  have J2 : Inv X pins σ H1 s1 := J1.pins_of fun p hp => J1.pin p (List.mem_append_right _ (List.mem_cons_of_mem _ hp))
  obtain ⟨hp1, g1, d1, t4, os1⟩ := s1
  refine call_mw (J2.kIn _ _ hC) hae3 hu1 (by show us.length ≤ sizeLine; rw [← Paired.length r1, hlen, sizeLine_eq]; omega) (fun h2 t5 k2 hx => ?_)
  have J := J2.write (t' := t4) (x := a) (e := a) (o := exo a C none) (by rw [ha]; exact True.intro) (.inl rfl) k2 ⟨_, hx⟩ (exo_ok hx)
  have eu : upd H1 a (exo a C none) = H1 := by
    funext b
    by_cases hb : b = a
    · rw [hb, upd_same, ha]
    · rw [upd_ne hb]
  rw [eu] at J
  exact hq _ J
end
section
variable {P : Program} {w : World} {K : PySem.W.Frag} {mg : Str → Option Value} {base : Heap} {C fI : Addr} {name qual : Str} {params : Arguments} {scope : Scope} {fd : FuncData} {cc : Addr} {cdv : Value}
/-- an own class's __init__ keeps its promise: the fields, by the reading t -/
def spI (C : Addr) (N ps : List Str) (t : TS) : Sp := fun vs H Q E => vs.length = ps.length ∧ ∃ (a : Addr) (ws : List V), vs = .ref a :: ws ∧ H a = some (exo a C none) ∧ t { nx := fun _ H' => Q .non H', rt := Q } (L2.start N vs) H
theorem init_ok {N ps : List Str} {k : Nat} {ar : Arg} {e : Expr} {p0 p1 p2 p3 p4 : Pos} {pl : Addr → Sem Bool} {rest : List Stmt} {t : TS} (S : IniS N ps scope)
    (T : IniF P K mg C fI name qual params (.Expr (.Call (.Attribute (.Call (.Name "super" p0) [] [] p1) "__init__" p2) [e] [] p3) p4 :: rest) scope fd cc cdv) (hpar : (params.posonlyargs ++ params.args).head? = some ar) (hself : ps[0]? = some ar.arg)
    (hev : ∀ L, eval (.Call (.Attribute (.Call (.Name "super" p0) [] [] p1) "__init__" p2) [e] [] p3) (envI qual scope L fI cdv cc) = (do
      let ov ← attributeBase (.Call (.Name "super" p0) [] [] p1) "__init__" (envI qual scope L fI cdv cc) (eval (.Call (.Name "super" p0) [] [] p1) (envI qual scope L fI cdv cc))
      standAt p2.atName
      let (f, first) ← holding [ov] (getMethod ov "__init__" (pl L))
      callWith p3 f first (backTo p3 (starEach [e] (envI qual scope L fI cdv cc))) []))
    (he : ∀ L, starEach [e] (envI qual scope L fI cdv cc) = (false, eval e (envI qual scope L fI cdv cc)) :: starEach [] (envI qual scope L fI cdv cc)) (hpl : ∀ L, (backTo p3 (starEach [] (envI qual scope L fI cdv cc))).any (·.1) = false)
    (hin : ∀ L, interactive (envI qual scope L fI cdv cc) = false) (hsw : ∀ L, swapsWith (.Call (.Attribute (.Call (.Name "super" p0) [] [] p1) "__init__" p2) [e] [] p3) none p4.line (envI qual scope L fI cdv cc) = pure false)
    (hbody : ∀ (A : Around) (outer : List PySem.Env) (s : Shared) (H : Hp) (E : XK) (vs : List V), vs.length = ps.length → (∃ te, PE (cxI (L2.CX P w) P w K mg base N qual scope fI cdv cc A outer s H E) e te ∧ ∀ Q : VK, (∀ v, Q v H) → te (L2.start N vs) H Q) ∧ PSs (cxI (L2.CX P w) P w K mg base N qual scope fI cdv cc A outer s H E) rest t) :
    FnOk P w K mg base (L2.CX P w) (k + 1) fI fd ps (spI C N ps t) := by
  refine ⟨fun vs H Q E h => h.1, fun A outer s H args us vs Q E hr e0 hb r hsp => ?_⟩
  obtain ⟨hl, a, ws, rfl, ha, ht⟩ := hsp
  have KX : K.In s.heap := e0.mod.kin.keeps fun b o e => (e0.bs b o e).1
  have lim : s.heap.NoLimit := e0.mod.nolimit.keeps fun b o e => (e0.bs b o e).1
  obtain ⟨dV, kV, doc, pm, an, ct, oc, od, osl, hfd, lk⟩ := id T.fn
  obtain ⟨cl, cld, csl, lkcell⟩ := T.cell
  have hl1 : us.length = ps.length := by rw [← Paired.length r, hl]
  subst hfd
  refine PySem.ks_codeAny_call_defAt (binds := ps.zip us) hr.depth (KX _ _ lk) rfl lim (PySem.W.codeRec_of KX T.code) rfl hb S.nocell (fun x hx => S.par _ (List.of_mem_zip hx).1) (fun h₀ ns hk => ?_) S.co S.gen S.kind
  have I := invI (CX := L2.CX P w) (w := w) (N := N) (qual := qual) (f := fI) (cd := cdv) (E := E) (t' := s.toks + (ps.zip us).length) S hr.hd e0 hl r ⟨_, lkcell, rfl⟩ ns hk
  obtain ⟨⟨te, pe, hte⟩, prest⟩ := hbody A outer s H E _ hl
  have hN0 : N[0]? = some ar.arg := by
    have hp : 0 < ps.length := by
      cases hps : ps with
      | nil => rw [hps] at hself; cases hself
      | cons _ _ => simp
    rw [← hself, ← S.pre, List.getElem?_take_of_lt hp]
  refine PySem.ks_wpAt_execs_cons (PySem.ks_wpAt_Expr_any ?_ (hin _) (hsw _))
  refine super_ok (X := cxI (L2.CX P w) P w K mg base N qual scope fI cdv cc A outer s H E) (pl := pl s.heap.objs.size) T rfl S.sup S.cls hpar hN0 (S.par _ (List.mem_of_getElem? hself)) I rfl ha pe hte (fun s' J => ?_) rfl (hev _) (he _) (hpl _)
  refine PySem.wpAt_of_wpAny (wpAny_mono (prest.run [] s' _ H _ J ht) (fun fl s2 hs => ?_) fun e s2 hs => hs)
  have fin : ∀ {σ' : L2.St} {H' : Hp} {v : V} {u : Value}, Inv (cxI (L2.CX P w) P w K mg base N qual scope fI cdv cc A outer s H E) [] σ' H' s2 → RelV v u → Q v H' → CE outer P w H s Q u s2 :=
    fun {σ' H' v u} J rv q => ⟨v, H', J.os, J.bare, J.base, J.hok, rv, q⟩
  cases fl with
  | ret u =>
    obtain ⟨v, σ', H', J, rv, q⟩ := hs
    exact fin J rv q
  | next =>
    obtain ⟨σ', H', J, q⟩ := hs
    exact fin (v := V.non) (u := Value.none) J rfl q
  | brk =>
    obtain ⟨_, _, _, q⟩ := hs
    exact False.elim q
  | cont =>
    obtain ⟨_, _, _, q⟩ := hs
    exact False.elim q
end
end VL

namespace VL
open PySem PySem.Spec PyProof.Rows L2

/-! ## raise C(e, ..) -/
def fldD (flds : List (Str × Nat)) (ds : List PyData) : Option (List (Str × PyData)) := flds.mapM fun p => (ds[p.2]?).map fun d => (p.1, d)
def fldV (flds : List (Str × Nat)) (ws : List V) : Option (List (Str × V)) := flds.mapM fun p => (ws[p.2]?).map fun d => (p.1, d)
theorem fld_kd {K : PySem.W.Frag} {F : Hp} : ∀ {flds : List (Str × Nat)} {ws : List V} {ds : List PyData} {fs : List (Str × PyData)}, DqA K F ws ds → fldD flds ds = some fs → ∃ xs, fldV flds ws = some xs ∧ KD K F xs fs
  | [], _, _, _, _, h => by
    cases h
    exact ⟨[], rfl, .nil⟩
  | (f, i) :: flds, ws, ds, fs, q, h => by
    unfold fldD at h
    rw [List.mapM_cons] at h
    cases e : ds[i]? with
    | none => rw [e] at h; cases h
    | some d =>
      rw [e] at h
      cases e2 : fldD flds ds with
      | none =>
        unfold fldD at e2
        rw [e2] at h; cases h
      | some r =>
        obtain ⟨xs, h1, h2⟩ := fld_kd q e2
        unfold fldD at e2
        rw [e2] at h
        cases h
        have go : ∀ {ws : List V} {ds : List PyData} {i : Nat}, DqA K F ws ds → ds[i]? = some d → ∃ v, ws[i]? = some v ∧ Dq K F v d := by
          intro ws ds i q
          induction ws generalizing ds i with
          | nil => cases q; intro z; simp at z
          | cons w ws ih =>
            cases q with
            | cons q1 q2 =>
              intro z
              cases i with
              | zero => simp at z; subst z; exact ⟨w, rfl, q1⟩
              | succ i => obtain ⟨v, a, b⟩ := ih (i := i) q2 (by simpa using z); exact ⟨v, by simpa using a, b⟩
        obtain ⟨v, a, b⟩ := go q e
        refine ⟨(f, v) :: xs, ?_, .cons ⟨rfl, b⟩ h2⟩
        unfold fldV at h1 ⊢
        rw [List.mapM_cons, a]
        simp only [Option.map_some, Option.pure_def, Option.bind_eq_bind, Option.bind_some, h1]
theorem outA {K : PySem.W.Frag} {ca : Nat → Addr} {W : WX} {B : Base} {F H : Hp} {env : VEnv} {σ : L2.St} {t : TA} {f : VEnv → Rs (List RV)} {Q : List V → Hp → Prop} {D : Ends} {k : List RV → Out} (s : SndA K ca W t f) (st : StOk K B F env σ H)
    (post : PostS K ca W B F D ((f env).out env k)) (h : ∀ r F1 H1 vs, PostS K ca W B F1 D (k r) → Grow F H F1 H1 → Paired (fun v r => RVok K H F1 H1 v r) vs r → Q vs H1) : t σ H Q := by
  refine s B F env σ H Q st ?_
  cases e : f env with
  | ok r => rw [e] at post; exact fun F' H' v g q => h r F' H' v (PostS.mono g.ff post) g q
  | ex c fs => rw [e] at post; exact exOut st post
  | no => rw [e] at post; exact post
/-- what the reading of an __init__ comes to -/
def IniT (C : Addr) (n : Nat) (flds : List (Str × Nat)) (t : List V → VK → Hp → Prop) : Prop :=
  ∀ (a : Addr) (ws : List V) (xs : List (Str × V)) (H : Hp) (Q : VK), ws.length = n → fldV flds ws = some xs → H a = some (exo a C none) →
    (∀ d H2, H d = none → d ≠ a → H2 a = some (exo a C (some d)) → H2 d = some (exd d xs) → (∀ b, b ≠ a → b ≠ d → H2 b = H b) → Q .non H2) → t (.ref a :: ws) Q H
def sRaise (c n : Nat) (flds : List (Str × Nat)) (fa : VEnv → Rs (List RV)) : VEnv → Out := fun env => (fa env).out env fun rs => (rsO ((allD rs).bind (fldD flds))).out env fun fs => if rs.length = n ∧ n ≤ 900 then .ex c fs env else .no
section
variable {ca : Nat → Addr} {W : WX} {X : Cx} {e : Expr} {es : List Expr} {fa : VEnv → Rs (List RV)} {pos p p1 : Pos}
theorem vs_raise {c n k : Nat} {flds : List (Str × Nat)} {x : Str} {fI : Addr} {fd : FuncData} {N ps : List Str} {t : TS} (T : OexC X.K (ca c)) (iC : PySem.W.findIn X.K (.ref (ca c)) "__init__" = some (some (.ref fI))) (tI : PySem.W.typeIn X.K (.ref fI) = some (.type "function"))
    (F1 : FnOk X.prog X.w X.K X.mg X.base (L2.CX X.prog X.w) k fI fd ps (spI (ca c) N ps t)) (hn : ps.length = n + 1) (ht : IniT (ca c) n flds (fun vs Q H => t { nx := fun _ H' => Q .non H', rt := Q } (L2.start N vs) H)) (hr : Room (k + 1) X.A) (hb : Binds X.K fd ps [])
    (tk : Takes X W) (hc : X.calm = true) (hg : Gl X x) (hm : X.mg x = some (.ref (ca c))) (ha : VA ca W X (e :: es) fa)
    (hdb : (x == ("__debug__" : Str)) = false := by decide) (he : starEach (e :: es) X.env = (false, eval e X.env) :: starEach es X.env := by rfl) (hpl : (backTo p (starEach es X.env)).any (·.1) = false := by rfl) :
    VS ca W X (.Raise (some (.Call (.Name x p1) (e :: es) [] p)) none pos) (sRaise c n flds fa) := by
  obtain ⟨ta, pa, sa⟩ := ha
  refine ⟨_, ps_raise hc tk (pmk_oex (ds := []) (dvs := []) T iC tI F1 hr hb .nil (passes_call tk fun _ _ _ _ z => z.elim) hg hm pa hdb he hpl), fun B F env σ H D st q => ?_⟩
  show ta σ H fun vs H1 => vs.length ≤ 1000 ∧ ∀ a, H1 a = none → spI (ca c) N ps t (.ref a :: (vs ++ [])) (upd H1 a (exo a (ca c) none))
    (fun v H2 => v = .non ∧ ∃ (d : Addr) (fs : List (Str × V)), H2 a = some (exo a (ca c) (some d)) ∧ H2 d = some (exd d fs) ∧ H1 d = none ∧ W (.ref (ca c)) (some d) σ (upd (del H2 a) d (.xd fs))) (fun _ _ _ => False)
  refine outA sa st q fun rs F1 H1 vs q1 g1 pr => ?_
  cases e1 : allD rs with
  | none => rw [e1] at q1; exact q1.elim
  | some ds =>
    rw [e1] at q1
    cases e2 : fldD flds ds with
    | none => simp only [Option.bind_some, e2, rsO_none, Rs.out_no] at q1; exact q1.elim
    | some fs =>
      simp only [Option.bind_some, e2, rsO_some, Rs.out_ok] at q1
      split at q1
      · rename_i hln
        obtain ⟨F2, g2, s2, q2⟩ := frzs g1 (Fz.ofs pr e1)
        obtain ⟨xs, hx, kd⟩ := fld_kd q2 e2
        have hvl : vs.length = n := by rw [Paired.length pr]; exact hln.1
        refine ⟨by omega, fun a na => ⟨by rw [List.append_nil]; simp [hvl, hn], a, vs ++ [], rfl, upd_same, ?_⟩⟩
        rw [List.append_nil]
        refine ht a vs xs (upd H1 a (exo a (ca c) none)) (fun v H2 => v = .non ∧ ∃ (d : Addr) (fs : List (Str × V)), H2 a = some (exo a (ca c) (some d)) ∧ H2 d = some (exd d fs) ∧ H1 d = none ∧ W (.ref (ca c)) (some d) σ (upd (del H2 a) d (.xd fs))) hvl hx upd_same (fun d H2 nd nda ea ed rest => ⟨rfl, d, xs, ea, ed, ?_, ?_⟩)
        · rw [upd_ne nda] at nd; exact nd
        · have nd1 : H1 d = none := by rw [upd_ne nda] at nd; exact nd
          have eH : upd (del H2 a) d (.xd xs) = upd H1 d (.xd xs) := by
            funext b
            by_cases hbd : b = d
            · rw [hbd, upd_same, upd_same]
            · rw [upd_ne hbd, upd_ne hbd]
              by_cases hba : b = a
              · rw [hba, del_same, na]
              · rw [del_ne hba, rest b hba hbd, upd_ne hba]
          rw [eH]
          have g3 := Grow.newO g2.cfg (.xd xs) nd1 (fun _ z => by cases z)
          exact q1 F2 σ _ (.ref (ca c)) (some d) s2 (st.grow (g2.trans g3)) ⟨rfl, d, xs, rfl, upd_same, kd⟩
      · exact q1.elim
end

/-! ## try: body / except C as n: suite -/
def Out.clr (i : Nat) : Out → Out
  | .nx env => .nx (env.set i none)
  | .bk env => .bk (env.set i none)
  | .ct env => .ct (env.set i none)
  | .rt r => .rt r
  | _ => .no
open Classical in
noncomputable def oneOut (f : Addr → Addr → Out) : Out := if h : ∃ o, ∀ a dd, f a dd = o then Classical.choose h else .no
theorem oneOut_eq {f : Addr → Addr → Out} {o : Out} (h : ∀ a dd, f a dd = o) : oneOut f = o := by
  unfold oneOut
  rw [dif_pos ⟨o, h⟩]
  have z := Classical.choose_spec (⟨o, h⟩ : ∃ o, ∀ a dd, f a dd = o)
  exact (z 0 0).symm.trans (h 0 0)
theorem oneOut_at {f : Addr → Addr → Out} (h : oneOut f ≠ .no) (a dd : Addr) : f a dd = oneOut f := by
  unfold oneOut at h ⊢
  split at h
  · rename_i z
    rw [dif_pos z]
    exact Classical.choose_spec z a dd
  · exact absurd rfl h
noncomputable def sTry (mt : Nat → Option Bool) (i : Nat) (body : VEnv → Out) (suite : Addr → Addr → Nat → VEnv → Out) : VEnv → Out := fun env => match body env with
  | .ex c fs env' => (match mt c with
    | some true => if i < env'.length then oneOut fun a dd => (suite a dd c (env'.set i (some (.xo a dd c fs)))).clr i else .no
    | some false => .ex c fs env'
    | none => .no)
  | o => o
def tUS (K : PySem.W.Frag) (ca : Nat → Addr) (W : WX) (f : VEnv → Out) : TS := fun D σ H => ∃ B F env, StOk K B F env σ H ∧ PostS K ca W B F D (f env)
theorem VSs.pss {ca : Nat → Addr} {W : WX} {X : Cx} {st : List Stmt} {f : VEnv → Out} (h : VSs ca W X st f) : PSs X st (tUS X.K ca W f) := by
  obtain ⟨t, p, s⟩ := h
  exact ⟨fun pins sh σ H D I q => by
    obtain ⟨B, F, env, so, post⟩ := q
    exact p.run pins sh σ H D I (s B F env σ H D so post)⟩
def wNo : WX := fun _ _ _ _ => False
theorem takes_no {X : Cx} : Takes X wNo := fun _ _ ⟨_, _, _, _, _, _, _, _, _, _, _, _, _, _, _, _, z⟩ => z.elim
section
variable {ca : Nat → Addr} {Wout : WX} {X : Cx} {x n : Str} {C : Value} {i : Nat} {body suite : List Stmt} {b₀ : Stmt} {np pos pos' : Pos}
theorem vs_try {mt : Nat → Option Bool} {fb : VEnv → Out} {fs : Addr → Addr → Nat → VEnv → Out} (hs : X.stack = X.env :: X.outer) (hf : X.env.frame = some X.env.locals) (hN : X.N.Nodup) (hi : X.N[i]? = some n) (hln : X.env.kindOf n = some .local) (hc : Names X x C) (tk : Takes X Wout)
    (hm : ∀ c b, mt c = some b → PySem.W.exmOne X.K (.ref (ca c)) C = some b)
    (hb : ∀ (W : WX) (pn : List (Addr × Obj)) (xe : Value → Shared → Prop), Takes (X.tr pn xe) W → PassesOwn (model X.prog X.w) X.A X.env xe → VSs ca W (X.tr pn xe) body fb)
    (hsu : ∀ (a dd : Addr) (c : Nat) (oe : Obj) (pn : List (Addr × Obj)), Zc (.ref (ca c)) (some dd) oe → (∃ vs, oe.data = .fields vs) → VSs ca wNo (X.suite a ((a, oe) :: pn)) (b₀ :: suite) (fs a dd c)) :
    VS ca Wout X (.Try body [.ExceptHandler (some (.Name x np)) (some n) (b₀ :: suite) pos'] [] [] pos) (sTry mt i fb fs) := by
  refine ⟨_, ps_try_as (tb := fun W => tUS X.K ca W fb) (ts := fun a cls d D σ H => ∃ c dd, cls = .ref (ca c) ∧ d = some dd ∧ tUS X.K ca wNo (fs a dd c) D σ H) hs hf hN hi hln hc tk (fun W pn xe t p => (hb W pn xe t p).pss) (fun a oe cls d pn hz hd => ⟨fun pins s σ H D I q => ?_⟩), fun B F env σ H D st q => ?_⟩
  · obtain ⟨c, dd, rfl, rfl, q⟩ := q
    exact (hsu a dd c oe pn hz hd).pss.run pins s σ H D I q
  · refine ⟨B, F, env, st, ?_⟩
    unfold sTry at q
    cases e : fb env with
    | nx env' => rw [e] at q; exact q
    | bk env' => rw [e] at q; exact q
    | ct env' => rw [e] at q; exact q
    | rt r => rw [e] at q; exact q
    | no => rw [e] at q; exact q
    | ex c fl env' =>
      rw [e] at q
      dsimp only at q
      intro F1 σ1 H1 cls dx s1 st1 xo
      obtain ⟨rfl, dd, xs, rfl, hdd, kd⟩ := xo
      cases em : mt c with
      | none => rw [em] at q; exact q.elim
      | some b =>
        rw [em] at q
        refine ⟨b, hm c b em, fun hb1 a na => ?_, fun hb1 => ?_⟩
        · subst hb1
          dsimp only at q
          split at q
          · rename_i hlt
            refine ⟨c, dd, rfl, rfl, B, F1, _, st1.put hlt (r := .xo a dd c fl) ⟨rfl, xs, hdd, kd⟩ rfl (fun z => by cases z), ?_⟩
            have q1 : PostS X.K ca Wout B F1 D ((fs a dd c (env'.set i (some (.xo a dd c fl)))).clr i) := by
              have hno : oneOut (fun a dd => (fs a dd c (env'.set i (some (.xo a dd c fl)))).clr i) ≠ .no := fun z => by rw [z] at q; exact q
              have := oneOut_at hno a dd
              rw [this]
              exact PostS.mono s1 q
            generalize fs a dd c (env'.set i (some (.xo a dd c fl))) = o at q1 ⊢
            cases o with
            | nx e2 => exact fun F2 σ2 H2 s2 st2 => q1 F2 _ H2 s2 (st2.drop i)
            | bk e2 => exact fun F2 σ2 H2 s2 st2 => q1 F2 _ H2 s2 (st2.drop i)
            | ct e2 => exact fun F2 σ2 H2 s2 st2 => q1 F2 _ H2 s2 (st2.drop i)
            | rt r => exact q1
            | ex c2 f2 e2 => exact q1.elim
            | no => exact q1.elim
          · exact q.elim
        · subst hb1
          exact q F1 σ1 H1 _ _ s1 st1 ⟨rfl, dd, xs, rfl, hdd, kd⟩
end
section
variable {ca : Nat → Addr} {W : WX} {X : Cx}
/-- e.f, e the exception that the suite holds -/
def cXf (a dd c : Nat) (cs : Nat → Bool) (i : Nat) (f : Str) : VEnv → Rs RV := fun env => match env[i]? with
  | some (some (.xo a' dd' c' fs)) => if a' = a ∧ dd' = dd ∧ c' = c ∧ cs c = true then (rsO (fs.lookup f)).bind fun d => .ok (.d d) else .no
  | _ => .no
theorem kd_lookup {K : PySem.W.Frag} {F : Hp} {f : Str} {d : PyData} : ∀ {xs : List (Str × V)} {fs : List (Str × PyData)}, KD K F xs fs → fs.lookup f = some d → ∃ v, xs.lookup f = some v ∧ Dq K F v d
  | _, _, .nil, h => by cases h
  | (k, v) :: xs, (k', d') :: fs, .cons h1 h2, h => by
    obtain ⟨e, q⟩ := h1
    have e' : k = k' := e
    subst e'
    by_cases z : f = k
    · subst z
      simp [List.lookup] at h
      subst h
      exact ⟨v, by simp [List.lookup], q⟩
    · have z' : (f == k) = false := by simpa using z
      simp only [List.lookup, z'] at h ⊢
      exact kd_lookup h2 h
theorem ve_xf {a dd c i : Nat} {cs : Nat → Bool} {oe : Obj} {pn : List (Addr × Obj)} {f x : Str} {p pos : Pos} (T : ∀ c, cs c = true → XfC X.K (ca c) ∧ PySem.W.findIn X.K (.ref (ca c)) f = some none) (hz : Zc (.ref (ca c)) (some dd) oe) (hf : ∃ vs, oe.data = .fields vs)
    (hN : X.N[i]? = some x) (hv : Vis X.env.scope x) (hd : (x == ("__debug__" : Str)) = false := by decide) (hcd : (x == ("__classdict__" : Str)) = false := by decide) (hb : ∀ env, attributeBase (.Name x p) f env (eval (.Name x p) env) = eval (.Name x p) env := by intro _; rfl) :
    VE ca W (X.suite a ((a, oe) :: pn)) (.Attribute (.Name x p) f pos) (cXf a dd c cs i f) := by
  by_cases hc : cs c = true
  · obtain ⟨T1, T2⟩ := T c hc
    refine ⟨_, pe_xf T1 T2 hz hf (pe_var (X := X.suite a ((a, oe) :: pn)) hN hv hd hcd) (hb _), fun B F env σ H Q st q => ?_⟩
    unfold cXf at q
    split at q
    · rename_i a' dd' c' fs e
      obtain ⟨v, ev, h⟩ := st.sl i _ e
      obtain ⟨rfl, xs, hdd, kd⟩ := h
      split at q
      · rename_i hcond
        obtain ⟨rfl, rfl, rfl, _⟩ := hcond
        cases el : fs.lookup f with
        | none => rw [el] at q; exact q.elim
        | some d =>
          rw [el] at q
          obtain ⟨u, hu, dq⟩ := kd_lookup kd el
          exact ⟨_, ev, rfl, rfl, dd', xs, u, rfl, hdd, hu, q F H u (Grow.refl st.cfg) dq⟩
      · exact q.elim
    · exact q.elim
  · refine ⟨fun _ _ _ => False, ⟨fun _ _ _ _ _ _ h => h.elim⟩, fun B F env σ H Q st q => ?_⟩
    unfold cXf at q
    split at q
    · rw [if_neg (fun z => hc z.2.2.2)] at q
      exact q.elim
    · exact q.elim
end
end VL

namespace VL
open PySem PySem.Spec PyProof.Rows L2
theorem start_at {N : List Str} {vs : List V} {i : Nat} {v : V} (h : vs[i]? = some v) : (L2.start N vs)[i]? = some (some v) := by
  unfold L2.start
  have hi : i < vs.length := (List.getElem?_eq_some_iff.mp h).1
  rw [List.getElem?_append_left (by simpa using hi), List.getElem?_map, h]
  rfl
theorem te_var {N : List Str} {vs : List V} {k : Nat} {H : Hp} (h : k < vs.length) (Q : VK) (hQ : ∀ v, Q v H) : tVar k (L2.start N vs) H Q :=
  ⟨vs[k], start_at (by rw [List.getElem?_eq_getElem h]), hQ _⟩
def clsBody (s : Stmt) : List Stmt := match s with
  | .ClassDef _ _ _ b _ _ _ _ _ _ _ => b
  | _ => []
theorem exm_mk {K : PySem.W.Frag} {C : Addr} {cls : Value} {b : Bool} (h1 : PySem.W.subIn K (.ref C) (.type "BaseException") = some true) (hdct : PySem.W.hasDictIn K C = true) (ht : PySem.W.typeIn K (.ref C) = some (.type "type")) (h4 : PySem.W.subIn K cls (.ref C) = some b) : PySem.W.exmOne K cls (.ref C) = some b := by
  obtain ⟨cd, hc, _⟩ := PySem.W.any_some hdct
  have e1 : (PySem.W.subIn K (.ref C) (.type "BaseException") == some true) = true := by rw [h1] <;> rfl
  have e2 : ((PySem.W.clsIn K C).isSome && PySem.W.typeIn K (.ref C) == some (.type "type")) = true := by rw [hc, ht] <;> rfl
  show (if (PySem.W.subIn K (.ref C) (.type "BaseException") == some true) = true then (if ((PySem.W.clsIn K C).isSome && PySem.W.typeIn K (.ref C) == some (.type "type")) = true then PySem.W.subIn K cls (.ref C) else none) else none) = some b
  rw [if_pos e1, if_pos e2]
  exact h4
section
variable {K : PySem.W.Frag} {C : Addr} {N : List Str} {f1 f2 : Str} {i j n : Nat}
theorem ini1 (T : OexC K C) (n1 : PySem.W.findIn K (.ref C) f1 = some none) : IniT C n [(f1, i)] (fun vs Q H => (tOst K f1 (tVar 0) (tVar (i + 1))) { nx := fun _ H' => Q .non H', rt := Q } (L2.start N vs) H) := by
  intro a ws xs H Q hl hx ha h
  cases e1 : ws[i]? with
  | none => unfold fldV at hx; simp [e1] at hx
  | some v1 =>
    have ex : xs = [(f1, v1)] := by unfold fldV at hx; simp [e1] at hx; exact hx.symm
    subst ex
    refine ⟨v1, start_at (by simpa using e1), .ref a, start_at rfl, a, C, rfl, T, n1, .inl ⟨ha, fun dx nd ne => ?_⟩⟩
    refine h dx _ nd ne upd_same (by rw [upd_ne ne, upd_same]) fun b h1 h2 => ?_
    rw [upd_ne h1, upd_ne h2]
theorem ini2 (T : OexC K C) (n1 : PySem.W.findIn K (.ref C) f1 = some none) (n2 : PySem.W.findIn K (.ref C) f2 = some none) : IniT C n [(f2, j), (f1, i)] (fun vs Q H => (tSeq (tOst K f1 (tVar 0) (tVar (i + 1))) (tOst K f2 (tVar 0) (tVar (j + 1)))) { nx := fun _ H' => Q .non H', rt := Q } (L2.start N vs) H) := by
  intro a ws xs H Q hl hx ha h
  cases e1 : ws[i]? with
  | none => unfold fldV at hx; cases e2 : ws[j]? <;> simp [e1, e2] at hx
  | some v1 =>
    cases e2 : ws[j]? with
    | none => unfold fldV at hx; simp [e1, e2] at hx
    | some v2 =>
      have ex : xs = [(f2, v2), (f1, v1)] := by unfold fldV at hx; simp [e1, e2] at hx; exact hx.symm
      subst ex
      refine ⟨v1, start_at (by simpa using e1), .ref a, start_at rfl, a, C, rfl, T, n1, .inl ⟨ha, fun dx nd ne => ?_⟩⟩
      refine ⟨v2, start_at (by simpa using e2), .ref a, start_at rfl, a, C, rfl, T, n2, .inr ⟨dx, [(f1, v1)], upd_same, by rw [upd_ne ne, upd_same], by simp, ?_⟩⟩
      refine h dx _ nd ne (by rw [upd_ne (Ne.symm ne), upd_same]) upd_same fun b h1 h2 => ?_
      rw [upd_ne h2, upd_ne h1, upd_ne h2]
end
/-! the reckoning of it -/
theorem e_raise {c n : Nat} {flds : List (Str × Nat)} {fa : VEnv → Rs (List RV)} {env : VEnv} : sRaise c n flds fa env = (fa env).out env fun rs => (rsO ((allD rs).bind (fldD flds))).out env fun fs => if rs.length = n ∧ n ≤ 900 then .ex c fs env else .no := rfl
theorem e_try_nx {mt : Nat → Option Bool} {i : Nat} {fb : VEnv → Out} {fs : Addr → Addr → Nat → VEnv → Out} {env : VEnv} (h : ∀ c fl e, fb env ≠ .ex c fl e) : sTry mt i fb fs env = fb env := by
  unfold sTry
  cases e : fb env with
  | ex c fl e' => exact absurd e (h c fl e')
  | _ => rfl
theorem e_try_ok {mt : Nat → Option Bool} {i : Nat} {fb : VEnv → Out} {fs : Addr → Addr → Nat → VEnv → Out} {env : VEnv} {o : Out} (h : fb env = o) (hn : ∀ c fl e, o ≠ .ex c fl e) : sTry mt i fb fs env = o := by
  rw [e_try_nx (fun c fl e => by rw [h]; exact hn c fl e), h]
theorem e_try_ex {mt : Nat → Option Bool} {i : Nat} {fb : VEnv → Out} {fs : Addr → Addr → Nat → VEnv → Out} {env env' : VEnv} {c : Nat} {fl : List (Str × PyData)} {o : Out} (h : fb env = .ex c fl env') (hm : mt c = some true) (hl : i < env'.length)
    (hs : ∀ a dd, (fs a dd c (env'.set i (some (.xo a dd c fl)))).clr i = o) : sTry mt i fb fs env = o := by
  unfold sTry
  rw [h]
  dsimp only
  rw [hm]
  dsimp only
  rw [if_pos hl]
  exact oneOut_eq hs
theorem e_clr1 (i env) : (Out.nx env).clr i = .nx (env.set i none) := rfl
theorem e_clr2 (i env) : (Out.bk env).clr i = .bk (env.set i none) := rfl
theorem e_clr3 (i env) : (Out.ct env).clr i = .ct (env.set i none) := rfl
theorem e_clr4 (i r) : (Out.rt r).clr i = .rt r := rfl
theorem e_xf {a dd c i : Nat} {cs : Nat → Bool} {f : Str} {env : VEnv} : cXf a dd c cs i f env = match env[i]? with
  | some (some (.xo a' dd' c' fs)) => if a' = a ∧ dd' = dd ∧ c' = c ∧ cs c = true then (rsO (fs.lookup f)).bind fun d => .ok (.d d) else .no
  | _ => .no := rfl
/-! what the text says of its classes -/
theorem oex_mk {K : PySem.W.Frag} {C : Addr} {nm q : Str} {N : Addr} {bs bm : List Value} {sn : List Str} {sub : List Value} {ab : Bool} {col : Option Bool} {dd : Option Addr} {k0 k1 k2 k3 k5 : Option Value} (l : K.lookup C = some (excClassObj nm q C N bs bm true sn sub ab col dd k0 k1 k2 k3 k5 "ValueError.__new__"))
    (hb : PySem.HandSPX.refsVE bm = true) (sa : PySem.W.findIn K (.ref C) "__setattr__" = some (some (.builtin "object.__setattr__"))) (exC : PySem.W.subIn K (.ref C) (.type "BaseException") = some true) (tyC : PySem.W.typeIn K (.ref C) = some (.type "type")) (kC : PySem.W.keepIn K (.ref C) = true) : OexC K C :=
  ⟨⟨nm, q, N, bs, bm, sn, sub, ab, col, dd, k0, k1, k2, k3, k5, l, hb⟩, sa, exC, tyC, kC⟩
end VL

namespace VL
open PySem PySem.Spec PyProof.Rows L2
/-! ## isinstance of a caught exception -/
structure IsE (K : PySem.W.Frag) (C : Addr) : Prop where
  hga : PySem.W.findIn K (.ref C) "__getattribute__" = some (some (.builtin "BaseException.__getattribute__"))
  hgt : PySem.W.findIn K (.ref C) "__getattr__" = some none
  hs : PySem.W.subIn K (.ref C) (.type "BaseException") = some true
  hd : PySem.W.hasDictIn K C = true
  ha : PySem.W.findIn K (.ref C) "__class__" = some (some (.builtin "object.__class__"))
  hn : PySem.W.specialIn K (.builtin "object.__class__") "__get__" = some (some (.builtin "getset_descriptor.__get__"))
  ht : PySem.W.takesIn K (.builtin "object.__class__") = some true
  hm : PySem.W.mroIn K C (.type "object") = some true
def rIsX (K : PySem.W.Frag) (C a dd : Addr) : List V → Hp → VK → Prop := fun xs H Q => ∃ (c : V) (cv : Value) (b : Bool) (fs : List (Str × V)), xs = [.ref a, c] ∧ (∀ u, RelV c u → u = cv) ∧ PySem.W.kitOne K (.ref C) cv = some b ∧ H dd = some (.xd fs) ∧ Q (.bl b) H
theorem call_isX {X : Cx} {a C dd : Addr} {oe : Obj} {pn : List (Addr × Obj)} (T : IsE X.K C) (hz : Zc (.ref C) (some dd) oe) (hf : ∃ vs, oe.data = .fields vs) : CallR (X.suite a ((a, oe) :: pn)) (.builtin "isinstance") (rIsX X.K C a dd) := by
  intro pins s σ H xs us Q I r h
  obtain ⟨c, cv, b, fs, rfl, hcv, e, hdd, q⟩ := h
  cases r with
  | cons rx rr =>
    cases rr with
    | cons rt rr =>
      cases rr
      cases rx
      have ec := hcv _ rt
      subst ec
      obtain ⟨hget, _⟩ := I.pin (a, oe) (List.mem_append.mpr (.inl List.mem_cons_self))
      obtain ⟨vs, hv⟩ := hf
      have hx : ObjOk X.prog X.w H s.heap dd (.xd fs) := I.hok dd _ hdd
      obtain ⟨mA, hns, hr⟩ := hx
      obtain ⟨od, ho, hl⟩ := lookIn_ns hns
      have J : PySem.W.InstAt s.heap a oe C (some od) := ⟨hget, hz.1, by unfold PySem.W.notCls; rw [hv] <;> rfl, by rw [hz.2]; exact ho⟩
      exact PySem.W.kia_one (PySem.W.kitx_exc (by obtain ⟨cd, hc, _⟩ := PySem.W.any_some T.hd; rw [hc]; rfl) T.hga T.hgt T.hs T.ha T.hn T.ht T.hm) I.kIn J e (fun z => nomatch z) fun tk => ⟨.bl b, H, I.kept (t' := tk) fun _ _ z => z, rfl, q⟩
def cIsE (a dd c : Nat) (tb : Nat → Option Bool) (i : Nat) : VEnv → Rs RV := fun env => match env[i]? with
  | some (some (.xo a' dd' c' fs)) => if a' = a ∧ dd' = dd ∧ c' = c then (rsO (tb c)).bind fun b => .ok (.d (.bool b)) else .no
  | _ => .no
theorem e_isE {a dd c i : Nat} {tb : Nat → Option Bool} {env : VEnv} : cIsE a dd c tb i env = match env[i]? with
  | some (some (.xo a' dd' c' fs)) => if a' = a ∧ dd' = dd ∧ c' = c then (rsO (tb c)).bind fun b => .ok (.d (.bool b)) else .no
  | _ => .no := rfl
section
variable {ca : Nat → Addr} {W : WX} {X : Cx}
theorem ve_isX {a dd c i : Nat} {tb : Nat → Option Bool} {oe : Obj} {pn : List (Addr × Obj)} {x x2 : Str} {p p1 p2 pos : Pos} {cv : V} {cu : Value} (T : ∀ c b, tb c = some b → IsE X.K (ca c) ∧ PySem.W.kitOne X.K (.ref (ca c)) cu = some b) (hz : Zc (.ref (ca c)) (some dd) oe) (hf : ∃ vs, oe.data = .fields vs)
    (hg : Gl X "isinstance") (hm : X.mg "isinstance" = none) (pc : PE (X.suite a ((a, oe) :: pn)) (.Name x2 p2) (tC cv)) (rc : ∀ u, RelV cv u → u = cu)
    (hN : X.N[i]? = some x) (hv : Vis X.env.scope x) (hd : (x == ("__debug__" : Str)) = false := by decide) (hcd : (x == ("__classdict__" : Str)) = false := by decide)
    (hs : starEach [.Name x p1, .Name x2 p2] X.env = (false, eval (.Name x p1) X.env) :: starEach [.Name x2 p2] X.env := by rfl) (hs2 : starEach [.Name x2 p2] X.env = (false, eval (.Name x2 p2) X.env) :: starEach [] X.env := by rfl) (hpl : (backTo pos (starEach [.Name x2 p2] X.env)).any (·.1) = false := by rfl) :
    VE ca W (X.suite a ((a, oe) :: pn)) (.Call (.Name "isinstance" p) [.Name x p1, .Name x2 p2] [] pos) (cIsE a dd c tb i) := by
  cases et : tb c with
  | none =>
    refine ⟨fun _ _ _ => False, ⟨fun _ _ _ _ _ _ h => h.elim⟩, fun B F env σ H Q st q => ?_⟩
    unfold cIsE at q
    rw [et] at q
    split at q
    · split at q <;> exact q.elim
    · exact q.elim
  | some b =>
    obtain ⟨T1, T2⟩ := T c b et
    refine ⟨_, pe_callB (X := X.suite a ((a, oe) :: pn)) (call_isX T1 hz hf) hg hm (by decide +kernel) (pa_cons (pe_var (X := X.suite a ((a, oe) :: pn)) hN hv hd hcd) (pa_cons pc pa_nil hs2) hs) (by decide) (by decide) hs hpl, fun B F env σ H Q st q => ?_⟩
    unfold cIsE at q
    rw [et] at q
    split at q
    · rename_i a' dd' c' fs e
      obtain ⟨v, ev, h⟩ := st.sl i _ e
      obtain ⟨rfl, xs, hdd, kd⟩ := h
      split at q
      · rename_i hcond
        obtain ⟨rfl, rfl, rfl⟩ := hcond
        exact ⟨_, ev, cv, cu, b, xs, rfl, rc, T2, hdd, q F H _ (Grow.refl st.cfg) (.bl b)⟩
      · exact q.elim
    · exact q.elim
theorem ve_isE {a dd c i : Nat} {tb : Nat → Option Bool} {oe : Obj} {pn : List (Addr × Obj)} {x x2 : Str} {p p1 p2 pos : Pos} {D : Addr} (T : ∀ c b, tb c = some b → IsE X.K (ca c) ∧ PySem.W.kitOne X.K (.ref (ca c)) (.ref D) = some b) (hz : Zc (.ref (ca c)) (some dd) oe) (hf : ∃ vs, oe.data = .fields vs)
    (hg : Gl X "isinstance") (hm : X.mg "isinstance" = none) (hg2 : Gl X x2) (hm2 : X.mg x2 = some (.ref D)) (hN : X.N[i]? = some x) (hv : Vis X.env.scope x) (hd : (x == ("__debug__" : Str)) = false := by decide) (hcd : (x == ("__classdict__" : Str)) = false := by decide) (hd2 : (x2 == ("__debug__" : Str)) = false := by decide)
    (hs : starEach [.Name x p1, .Name x2 p2] X.env = (false, eval (.Name x p1) X.env) :: starEach [.Name x2 p2] X.env := by rfl) (hs2 : starEach [.Name x2 p2] X.env = (false, eval (.Name x2 p2) X.env) :: starEach [] X.env := by rfl) (hpl : (backTo pos (starEach [.Name x2 p2] X.env)).any (·.1) = false := by rfl) :
    VE ca W (X.suite a ((a, oe) :: pn)) (.Call (.Name "isinstance" p) [.Name x p1, .Name x2 p2] [] pos) (cIsE a dd c tb i) :=
  ve_isX T hz hf hg hm (pe_glob (X := X.suite a ((a, oe) :: pn)) (v := .ref D) hg2 hm2 rfl hd2) (fun _ h => h) hN hv hd hcd hs hs2 hpl
theorem ve_isV {a dd c i : Nat} {tb : Nat → Option Bool} {oe : Obj} {pn : List (Addr × Obj)} {x x2 : Str} {p p1 p2 pos : Pos} {D : String} (T : ∀ c b, tb c = some b → IsE X.K (ca c) ∧ PySem.W.kitOne X.K (.ref (ca c)) (.type D) = some b) (hz : Zc (.ref (ca c)) (some dd) oe) (hf : ∃ vs, oe.data = .fields vs)
    (hg : Gl X "isinstance") (hm : X.mg "isinstance" = none) (hg2 : Gl X x2) (hm2 : X.mg x2 = none) (hv2 : bootBuiltins x2 = some (.type D)) (hN : X.N[i]? = some x) (hv : Vis X.env.scope x) (hn2 : x2 ≠ "__name__" := by decide) (hd : (x == ("__debug__" : Str)) = false := by decide) (hcd : (x == ("__classdict__" : Str)) = false := by decide) (hd2 : (x2 == ("__debug__" : Str)) = false := by decide)
    (hs : starEach [.Name x p1, .Name x2 p2] X.env = (false, eval (.Name x p1) X.env) :: starEach [.Name x2 p2] X.env := by rfl) (hs2 : starEach [.Name x2 p2] X.env = (false, eval (.Name x2 p2) X.env) :: starEach [] X.env := by rfl) (hpl : (backTo pos (starEach [.Name x2 p2] X.env)).any (·.1) = false := by rfl) :
    VE ca W (X.suite a ((a, oe) :: pn)) (.Call (.Name "isinstance" p) [.Name x p1, .Name x2 p2] [] pos) (cIsE a dd c tb i) :=
  ve_isX T hz hf hg hm (pe_bltn (X := X.suite a ((a, oe) :: pn)) (v := .ty D) hg2 hm2 hv2 rfl hn2 hd2) (fun _ h => h) hN hv hd hcd hs hs2 hpl
end
theorem kit_mk {K : PySem.W.Frag} {C D : Addr} {b : Bool} (hd : PySem.W.hasDictIn K D = true) (ty : PySem.W.typeIn K (.ref D) = some (.type "type")) (ss : PySem.W.subIn K (.ref D) (.ref D) = some true) (sb : PySem.W.subIn K (.ref C) (.ref D) = some b) : PySem.W.kitOne K (.ref C) (.ref D) = some b := by
  unfold PySem.W.kitOne
  split
  · rename_i h
    have e : C = D := Value.ref.inj (beq_iff_eq.mp h)
    subst e
    exact ss.symm.trans sb
  · obtain ⟨cd, hc, _⟩ := PySem.W.any_some hd
    have e2 : ((PySem.W.clsIn K D).isSome && PySem.W.typeIn K (.ref D) == some (.type "type")) = true := by rw [hc, ty] <;> rfl
    show (if ((PySem.W.clsIn K D).isSome && PySem.W.typeIn K (.ref D) == some (.type "type")) = true then PySem.W.subIn K (.ref C) (.ref D) else none) = some b
    rw [if_pos e2]
    exact sb
theorem kit_mkV {K : PySem.W.Frag} {C : Addr} {b : Bool} (sb : PySem.W.subIn K (.ref C) (.type "ValueError") = some b) : PySem.W.kitOne K (.ref C) (.type "ValueError") = some b := by
  unfold PySem.W.kitOne
  rw [if_neg (by intro h; cases (beq_iff_eq.mp h))]
  show (if PySem.W.kitMeta "ValueError" = true then PySem.W.subIn K (.ref C) (.type "ValueError") else none) = some b
  rw [if_pos (by decide +kernel)]
  exact sb
end VL

namespace VL
open PySem PySem.Spec PyProof.Rows L2
/-! ## sorted(set(xs)), xs a list of ints -/
section
variable {P : Program} {w : World} {A : Around} {E : Value → Shared → Prop} {s : Shared}
set_option maxRecDepth 100000 in
set_option maxHeartbeats 3200000 in
theorem call_set_lstI {l : Addr} {items : Array Value} (ns : List Int) {Q : Value → Shared → Prop} (hh : A.handled = none) (hl : s.heap.IsList l items) (hit : IntsAre items.toList ns) (hb : ns.length + 1 < scanBound)
    (h : ∀ (h' : Heap) (tk c : Nat), SetR w h' s.heap.objs.size (fun j => decide (j ∈ ns)) c → c ≤ ns.length → (∀ b o, s.heap.get? b = some o → h'.get? b = some o) → Q (.ref s.heap.objs.size) { s with heap := h', toks := tk }) :
    wpAny (model P w) A (call (.type "set") [.ref l]) Q E s := by
  have hisz : items.size = ns.length := by
    have q := IntsAre.length hit
    rw [Array.length_toList] at q
    exact q
  obtain ⟨c, tl, hmro⟩ := F.called_set.mro
  have hmade := F.called_set.made
  have hsub := F.called_set.sub
  refine wpAny_call (codeAny_of_tree ?_)
  show wpAny _ _ (callAny (.type "set") _) _ _ _
  refine wpAny_pure ⟨Code.quiet_builtin _ (by decide +kernel), codeAny_builtin F.entry_type_call ?_⟩
  rw [Around.under_plain (weight_type_call_type "set" [.ref l] []) rfl]
  have h1 := F.called_set.notType
  have h2 := F.called_set.canCreate
  have hct := F.typeCall_set_1 (.ref l)
  repeat (any_goals (first | assumption | wp_step))

  refine codeAny_mono (code_set_led1 (.ref l) (E := E) (Q₁ := fun obj s₁ => obj = .ref s.heap.objs.size ∧ s₁ = { s with heap := s.heap.push { cls := .type "set", dict := none, data := .set #[] 0 (.fresh 0 0 (!w.params.followText "set-order")) } }) ⟨rfl, rfl⟩) fun r s₁ hr => ?_
  cases r with
  | error e => exact hr
  | ok fl =>
    cases fl with
    | ret obj =>
      obtain ⟨rfl, rfl⟩ := hr
      have hS : (s.heap.push { cls := .type "set", dict := none, data := .set #[] 0 (.fresh 0 0 (!w.params.followText "set-order")) }).get? s.heap.objs.size = some { cls := .type "set", dict := none, data := .set #[] 0 (.fresh 0 0 (!w.params.followText "set-order")) } := Heap.get?_push_size _ rfl
      have hT : Shared.TypeIs { s with heap := s.heap.push { cls := .type "set", dict := none, data := .set #[] 0 (.fresh 0 0 (!w.params.followText "set-order")) } } (.ref s.heap.objs.size) "set" := ⟨_, hS, rfl⟩
      have hli := F.called_set.init.lookup
      have hbi := F.called_set.init.bind (.ref s.heap.objs.size)
      repeat (any_goals (first | assumption | wp_step))

      refine codeAny_mono (codeAny_call_builtin (R := wants (fun r s₂ => r = .none ∧ ∃ h' tk c, s₂ = { s with heap := h', toks := tk } ∧ SetR w h' s.heap.objs.size (fun j => decide (j ∈ ns)) c ∧ c ≤ ns.length ∧
          (∀ b o, s.heap.get? b = some o → h'.get? b = some o)) E) F.called_set.init.plain F.entry_set_init (check_set_init_1 hT ?_)) fun r₂ s₂ hr₂ => ?_
      · obtain ⟨ol, hol, hcl, nl, hdl⟩ := hl
        obtain ⟨ocls, odict, odata, oslots⟩ := ol
        simp only at hcl hdl
        subst hcl; subst hdl
        have hol' : (s.heap.push { cls := .type "set", dict := none, data := .set #[] 0 (.fresh 0 0 (!w.params.followText "set-order")) }).get? l = some { cls := .type "list", dict := odict, data := .seq items nl, slots := oslots } := Heap.get?_push_of_some _ hol
        have hsls := F.sub_list_set
        have hslf := F.sub_list_frozenset
        have hne : (Value.type "list" == Value.type "dict") = false := by decide
        have hl1 : (s.heap.push { cls := .type "set", dict := none, data := .set #[] 0 (.fresh 0 0 (!w.params.followText "set-order")) }).IsList l items := ⟨_, hol', rfl, nl, rfl⟩
        unfold Builtin.«set.__init__» noKeywords Builtin.Frozenset.updateFrom
        generalize hPI : pyIter = PI
        wp_walk
        subst hPI

        refine wpAny_pyIter_list hl1 ?_
        refine wpAny_bind (wpAny_runValue ?_)
        have hlS : l < s.heap.objs.size := Heap.lt_size hol
        have hh3 : A.in1.in1.in1.handled = none := by simp [hh]
        have hz1 : (s.heap.push { cls := .type "set", dict := none, data := .set #[] 0 (.fresh 0 0 (!w.params.followText "set-order")) }).objs.size = s.heap.objs.size + 1 := Heap.size_push ..
        have hneI : l ≠ (s.heap.push { cls := .type "set", dict := none, data := .set #[] 0 (.fresh 0 0 (!w.params.followText "set-order")) }).objs.size := by
          rw [Heap.size_push]; exact Nat.ne_of_lt (Nat.lt_succ_of_lt hlS)
        have hSf : s.heap.objs.size ∉ [(s.heap.push { cls := .type "set", dict := none, data := .set #[] 0 (.fresh 0 0 (!w.params.followText "set-order")) }).objs.size, l] := by
          rw [Heap.size_push]; simp only [List.mem_cons, List.mem_singleton, List.not_mem_nil, or_false, not_or]
          exact ⟨Nat.ne_of_lt (Nat.lt_succ_self _), Nat.ne_of_gt hlS⟩
        have hval : ∀ (i : Nat) (v : Value), items[i]? = some v → ∃ k t, ns[i]? = some k ∧ v = .int k t := fun i v hv => by
          have hi : i < ns.length := by rw [← hisz]; exact (Array.getElem?_eq_some_iff.mp hv).1
          obtain ⟨t, e⟩ := PyProof.Rows.IntsAre.int_at hit i v (by rw [Array.getElem?_toList]; exact hv)
          refine ⟨ns[i], t, List.getElem?_eq_getElem hi, ?_⟩
          rw [e, List.getD_eq_getElem?_getD, List.getElem?_eq_getElem hi] <;> rfl
        refine set_update_ints ((Walks.list hh3 _ l hneI items).toS) s.heap.objs.size
          hSf ns hisz hb hval (items.size - 0) 0 _ (by omega) (Nat.zero_le _)
          ⟨⟨_, Heap.get?_push_size _ rfl, rfl, rfl⟩, (hl1.push _)⟩ ?hS0 ?hR
        case hS0 =>
          have hget : ((s.heap.push { cls := .type "set", dict := none, data := .set #[] 0 (.fresh 0 0 (!w.params.followText "set-order")) }).push { cls := .type "list_iterator", data := .fields #[.ref l, .int 0 0] }).get? s.heap.objs.size
              = some { cls := .type "set", dict := none, data := .set #[] 0 (.fresh 0 0 (!w.params.followText "set-order")) } := Heap.get?_push_of_some _ hS
          exact ⟨0, Nat.le_refl 0, setR_new_at hget⟩
        case hR =>
          intro s' c' hm hc' hS'
          obtain ⟨h', g2, d', tk', os'⟩ := s'
          have eg : g2 = s.gens := hm.gens
          have ed : d' = s.drawn := hm.drawn
          have eo : os' = s.os := hm.os
          subst eg; subst ed; subst eo
          show wpAny _ _ _ _ _ _
          refine wpAny_pure ?_
          show wpAny _ _ (ret Value.none) _ _ _
          rw [hisz] at hc'
          refine wpAny_pure ⟨rfl, h', tk', c', rfl, hS', hc', fun b o e => ?_⟩
          have hb0 : b < s.heap.objs.size := Heap.lt_size e
          have hb1 : b ≠ s.heap.objs.size := Nat.ne_of_lt hb0
          have hb2 : b ≠ (s.heap.push { cls := .type "set", dict := none, data := .set #[] 0 (.fresh 0 0 (!w.params.followText "set-order")) }).objs.size := by
            rw [Heap.size_push]; exact Nat.ne_of_lt (Nat.lt_succ_of_lt hb0)
          exact hm.heap b o (by simp only [List.mem_cons, List.mem_singleton, List.not_mem_nil, or_false, not_or]; exact ⟨hb1, hb2⟩) (Heap.get?_push_of_some _ (Heap.get?_push_of_some _ e))

      · cases r₂ with
        | error e => exact hr₂
        | ok fl₂ =>
          cases fl₂ with
          | ret r =>
            obtain ⟨rfl, h', tk, c', rfl, hS', hc', hk'⟩ := hr₂
            repeat (any_goals (first | assumption | wp_step))
            exact h _ _ _ hS' hc' hk'
          | _ => exact hr₂.elim
    | _ => exact hr.elim

end
/-- set(xs), xs a list of ints -/
def rSetOfI (K : PySem.W.Frag) (w : World) : List V → Hp → VK → Prop := fun xs H Q => ∃ (l : Addr) (ns : List Int), xs = [V.ref l] ∧ SqL K H l (ns.map V.int) ∧ ns.length ≤ 60 ∧
  ∀ a c, H a = none → c ≤ 60 → Q (.ref a) (upd H a (SetO w a (fun j => decide (j ∈ ns)) c))
theorem cr_setOfI {X : Cx} (hc : X.calm = true) : CallR X (.type "set") (rSetOfI X.K X.w) := by
  intro pins s σ H xs us Q I r h
  obtain ⟨l, ns, rfl, hl, hf, q⟩ := h
  rw [Vals.ref1 r]
  obtain ⟨its, rv, pl, hz⟩ := I.list hl
  have hn : H s.heap.objs.size = none := I.hok.fresh (Nat.le_refl _)
  have hi : IntsAre its.toArray.toList ns := ints_of_vals rv
  refine call_set_lstI (P := X.prog) (w := X.w) ns (I.ok.hd hc) pl.isList hi (by unfold scanBound; omega) fun h' tk c R hcn k => ?_
  exact ⟨.ref s.heap.objs.size, upd H s.heap.objs.size (SetO X.w s.heap.objs.size (fun j => decide (j ∈ ns)) c), I.laid (t' := tk) k (Nat.le_refl _) (setO_new R), rfl, q _ c hn (by omega)⟩
/-- the members, once each -/
def onceI : List Int → List Int
  | [] => []
  | x :: xs => if x ∈ onceI xs then onceI xs else x :: onceI xs
theorem once_mem (k : Int) : ∀ xs : List Int, k ∈ onceI xs ↔ k ∈ xs
  | [] => Iff.rfl
  | x :: xs => by
    have ih := once_mem k xs
    unfold onceI
    split
    · rename_i c
      rw [ih, List.mem_cons]
      constructor
      · exact .inr
      · rintro (rfl | z)
        · exact (once_mem k xs).mp c
        · exact z
    · rw [List.mem_cons, List.mem_cons, ih]
theorem once_nodup : ∀ xs : List Int, (onceI xs).Nodup
  | [] => .nil
  | x :: xs => by
    unfold onceI
    split
    · exact once_nodup xs
    · rename_i c
      exact List.nodup_cons.mpr ⟨c, once_nodup xs⟩
theorem lt_uniq {xs ys : List Int} (h : xs.Pairwise (· < ·)) (k : ys.Pairwise (· < ·)) (e : ∀ j, j ∈ xs ↔ j ∈ ys) : xs = ys := by
  have le : ∀ {zs : List Int}, zs.Pairwise (· < ·) → zs.Pairwise (· ≤ ·) := fun h => List.Pairwise.imp (fun z => by omega) h
  have nd : ∀ {zs : List Int}, zs.Pairwise (· < ·) → zs.Nodup := fun h => List.Pairwise.imp (fun z => by omega) h
  exact sorted_uniq ((List.perm_ext_iff_of_nodup (nd h) (nd k)).mpr e) (le h) (le k)
theorem once_sorted (ns : List Int) : (isort (onceI ns)).Pairwise (· < ·) := by
  have h := isort_sorted (onceI ns)
  have n : (isort (onceI ns)).Nodup := (isort_perm _).nodup_iff.mpr (once_nodup ns)
  exact List.Pairwise.imp (fun ⟨a, b⟩ => by omega) (List.Pairwise.and h n)
/-- sorted(set(xs)) -/
def gSortSet (r : RV) : Rs RV := (rsO r.qv).bind fun xs => (rsO (intsD xs)).bind fun ns => if ns.length ≤ 60 then .ok (.ol ((isort (onceI ns)).map .int)) else .no
theorem e_sortSet (r : RV) : gSortSet r = (rsO r.qv).bind fun xs => (rsO (intsD xs)).bind fun ns => if ns.length ≤ 60 then .ok (.ol ((isort (onceI ns)).map .int)) else .no := rfl
theorem ve_sortSet {ca : Nat → Addr} {W : WX} {X : Cx} {e : Expr} {fa : VEnv → Rs RV} {p p2 pos pos2 : Pos} (hc : X.calm = true) (hg : Gl X "sorted") (hm : X.mg "sorted" = none) (hg2 : Gl X "set") (hm2 : X.mg "set" = none) (h : VE ca W X e fa)
    (he : starEach [e] X.env = [(false, eval e X.env)] := by rfl) (he2 : starEach [Expr.Call (.Name "set" p2) [e] [] pos2] X.env = [(false, eval (Expr.Call (.Name "set" p2) [e] [] pos2) X.env)] := by rfl) :
    VE ca W X (.Call (.Name "sorted" p) [.Call (.Name "set" p2) [e] [] pos2] [] pos) (c1 gSortSet fa) := by
  obtain ⟨t, pe, s⟩ := h
  have e1 : PE X (.Call (.Name "set" p2) [e] [] pos2) (tCB (rSetOfI X.K X.w) (tCons t tNil)) := pe_callTy (cr_setOfI hc) hg2 hm2 (by decide +kernel) (pa_cons pe pa_nil he) (by decide) (by decide) he rfl
  have e2 : PE X (.Call (.Name "sorted" p) [.Call (.Name "set" p2) [e] [] pos2] [] pos) (tCB (rSortedSet X.w) (tCons (tCB (rSetOfI X.K X.w) (tCons t tNil)) tNil)) := pe_callB (cr_sortedSet hc) hg hm (by decide +kernel) (pa_cons e1 pa_nil he2) (by decide) (by decide) he2 rfl
  refine ⟨_, e2, fun B F env σ H Q st q => ?_⟩
  show t σ H fun x H1 => rSetOfI X.K X.w [x] H1 fun y H2 => rSortedSet X.w [y] H2 Q
  refine seqE (PostE X.K ca W σ F H Q) s st q (fun _ _ h => h) (fun h => h) fun r F1 H1 v p1 g1 q1 => ?_
  unfold gSortSet at p1
  cases e3 : r.qv with
  | none => rw [e3] at p1; exact p1.elim
  | some xs =>
    rw [e3] at p1
    simp only [rsO_some, Rs.bind_ok] at p1
    cases e4 : intsD xs with
    | none => rw [e4] at p1; exact p1.elim
    | some ns =>
      rw [e4] at p1
      simp only [rsO_some, Rs.bind_ok] at p1
      split at p1
      · rename_i hz
        obtain ⟨q0, ws, rfl, hq, dq⟩ := qv_ok g1.cfg.sub q1 e3
        obtain rfl := ints_ok dq e4
        refine ⟨q0, ns, rfl, hq, hz, fun a c ha hc60 => ⟨a, _, c, rfl, upd_same, by omega, fun out l so mem _ hl => ?_⟩⟩
        have e5 : out = isort (onceI ns) := lt_uniq so (once_sorted ns) fun j => by
          rw [mem j, decide_eq_true_eq, (isort_perm _).mem_iff, once_mem]
        subst e5
        have g2 := Grow.newO g1.cfg (SetO X.w a (fun j => decide (j ∈ ns)) c) ha (fun _ z => by cases z)
        have g3 := Grow.newO g2.cfg (.lst ((isort (onceI ns)).map V.int)) hl (fun _ z => by cases z)
        refine p1 _ _ _ ((g1.trans g2).trans g3) ⟨l, _, rfl, same_none g1.hh (same_none g2.hh hl), same_none g2.cfg.sub hl, upd_same, DqA.of_ints _⟩
      · exact p1.elim
end VL

namespace VL
open PySem PySem.Spec PyProof.Rows L2
/-! ## k in d.values() -/
theorem nameless_vals : typeLookup (.type "dict_values") "__contains__" = pure none := by
  rw [typeLookup_type, builtinLookup_eq_fast]
  kernel_rfl
theorem entry_cit : entryFor table "proto.contains_iter" = some Builtin.«proto.contains_iter» := entryFor_of_tree (by kernel_rfl)
theorem plain_cit : plainId "proto.contains_iter" = true := by decide +kernel
section
variable {P : Program} {w : World} {A : Around} {E : Value → Shared → Prop}
theorem contains_loop {I : Addr} {fp wr : List Addr} {G : Array GenState → Array GenState → Prop} {n : Nat} {Pv : Nat → Value → Prop} {St : Nat → Shared → Prop} {R : Result → Shared → Prop}
    (W : WalksS P w A.in1 I fp wr G n Pv St) (k : Int) (tk : Tok) (is : List Int) (hn : n = is.length) (hval : ∀ i v, Pv i v → ∃ t, v = .int (is.getD i 0) t) :
    ∀ (m i : Nat) (s : Shared), n - i = m → i ≤ n → St i s → (∀ s', Moved wr G s s' → R (.ok (.ret (.bool (decide (k ∈ is.drop i))))) s') →
      codeAny (model P w) A (.builtin "proto.contains_iter" ⟨[.ref I, .int k tk], []⟩) R s := by
  intro m
  induction m with
  | zero =>
    intro i s hm hi hst hR
    obtain rfl : i = n := by omega
    refine codeAny_builtin entry_cit ?_
    rw [Around.under_plainId plain_cit _]
    show wpAny _ A.in1 (pyNext (.ref I) >>= _) _ _ s
    refine wpAny_bind (W.done s _ _ hst fun s' hm => ?_)
    refine wpAny_bind (wpAny_rule (wpAny_pure ?_))
    have := hR s' hm
    rw [List.drop_eq_nil_of_le (by omega)] at this
    exact this
  | succ m ih =>
    intro i s hm hi hst hR
    have hlt : i < n := by omega
    have hd : is.drop i = is[i]'(by omega) :: is.drop (i + 1) := List.drop_eq_getElem_cons (by omega)
    refine codeAny_builtin entry_cit ?_
    rw [Around.under_plainId plain_cit _]
    show wpAny _ A.in1 (pyNext (.ref I) >>= _) _ _ s
    refine wpAny_bind (W.item i s _ _ hlt hst fun v s' hP hst' hmv => ?_)
    obtain ⟨t, rfl⟩ := hval i v hP
    have e0 : is.getD i 0 = is[i]'(by omega) := by rw [List.getD_eq_getElem?_getD, List.getElem?_eq_getElem (by omega)]; rfl
    refine wpAny_bind (wpAny_eqBool_int ?_)
    rw [e0]
    cases hb : (is[i]'(by omega) == k) with
    | false =>
      simp only [Bool.false_eq_true, if_false]
      refine wpAny_pure ⟨plainId_quiet plain_cit _, ih (i + 1) _ (by omega) hlt hst' fun s'' hm' => ?_⟩
      have := hR s'' (hmv.trans W.gtrans hm')
      have ne : ¬ k = is[i]'(by omega) := fun z => by
        rw [← z] at hb
        simp at hb
      have e : decide (k ∈ is.drop i) = decide (k ∈ is.drop (i + 1)) := decide_eq_decide.mpr (by
        rw [hd, List.mem_cons]
        exact ⟨fun z => z.resolve_left ne, .inr⟩)
      rw [e] at this
      exact this
    | true =>
      simp only [if_true]
      refine wpAny_bind (wpAny_rule (wpAny_pure ?_))
      have := hR s' hmv
      have e : k = is[i]'(by omega) := by simpa using (beq_iff_eq.mp hb).symm
      rw [hd, decide_eq_true (by rw [← e]; exact List.mem_cons_self)] at this
      exact this
end
def vwObj (a : Addr) : Obj := { cls := .type "dict_values", data := .fields #[.ref a] }
def VwO (p a : Addr) : HO := .ext fun h => h.get? p = some (vwObj a)
theorem vw_new {P : Program} {w : World} {H : Hp} {h : Heap} {p a : Addr} (R : h.get? p = some (vwObj a)) : ObjOk P w H h p (VwO p a) := ⟨R, ⟨_, R⟩, fun h1 h2 q k => k _ q⟩
/-- d.values(), as an object -/
def tValsK (td : TE) : TE := fun σ H Q => td σ H fun x H1 => ∃ a kvs, x = V.ref a ∧ Rd H1 a (.dK kvs) ∧ ∀ p, H1 p = none → Q (.ref p) (upd H1 p (VwO p a))
theorem pe_valsK {X : Cx} {o : Expr} {apos mpos : Pos} {td : TE} (hd : PE X o td) (hbase : attributeBase o "values" X.env (eval o X.env) = eval o X.env := by rfl) (hline : (apos.endLine == mpos.line) = true := by rfl) :
    PE X (.Call (.Attribute o "values" apos) [] [] mpos) (tValsK td) := by
  refine ⟨fun pins s σ H Q I h => wpAny_Call_method0_late hbase hline (thn (hd.run pins s σ H _ I h) fun v s1 ⟨x, H1, I1, r1, a, kvs, ex, ha, q⟩ => ?_)⟩
  subst ex
  obtain rfl : v = Value.ref a := r1
  obtain ⟨_, hsys, vs, rel, dof⟩ := dk_rd I1.hok ha
  obtain ⟨ep, dat⟩ := dof.dictAt
  have dat' := dat
  obtain ⟨ob, es, ho, ex, hdat, hko, hpr, hnd⟩ := dat'
  refine ⟨"dict", "dict.values", F.plainAttrs_dict, F.slot_dict_values, F.type_dict_values, ⟨ob, ho, ex.1⟩, fun b e => ?_, Calls.callWith_builtin rfl (PySem.evalArgs_none ?_)⟩
  · cases e
    exact ⟨ob, ho, ex.2.1⟩
  refine call_meetsIn F.slot_dict_values ⟨ob, ho, ex.1⟩ F.entry_dict_values (F.args_dict_values_1 _) (meets_dict_values (mixKind X.prog X.w) a hsys) ⟨⟨vs, dof⟩, ?_⟩
  exact ⟨.ref _, upd H1 s1.heap.objs.size (VwO s1.heap.objs.size a), I1.laid (t' := s1.toks) (fun b u e => Heap.get?_push_of_some _ e) (Nat.le_refl _) (vw_new (Heap.get?_push_size _ rfl)), rfl, q _ (I1.hok.fresh (Nat.le_refl _))⟩
def rInVals : R2 := fun x y H Q => ∃ (k : Int) (p a : Addr) (kvs : List (Key × V)) (is : List Int), x = V.int k ∧ y = V.ref p ∧ H p = some (VwO p a) ∧ Rd H a (.dK kvs) ∧ kvs.map (·.2) = is.map V.int ∧ Q (.bl (decide (k ∈ is))) H
theorem or_inVals {X : Cx} (hc : X.calm = true) : OpR X (compareOp .In) rInVals := by
  intro pins s σ H x y v u Q I rx ry h
  obtain ⟨k, p, a, kvs, is, rfl, rfl, hp, ha, hv, q⟩ := h
  obtain ⟨tk, rfl⟩ := rx
  cases ry
  have vw : s.heap.get? p = some (vwObj a) := (I.hok p _ hp).1
  have hT : s.TypeIs (.ref p) "dict_values" := ⟨_, vw, rfl⟩
  obtain ⟨_, hsys, vs, rel, dof⟩ := dk_rd I.hok ha
  obtain ⟨ep, dat⟩ := dof.dictAt
  have dat' := dat
  obtain ⟨ob, es, ho, ex, hdat, hko, hpr, hnd⟩ := dat'
  have hlv : vs.length = is.length := by
    have e1 := congrArg List.length hv
    rw [List.length_map, List.length_map] at e1
    rw [← e1]
    exact (KV.length rel).symm
  have hval : ∀ (i : Nat) (v : Value), (∃ k, vs[i]? = some (k, v)) → ∃ t, v = Value.int (is.getD i 0) t := fun i v ⟨k, hk⟩ => by
    obtain ⟨x, h1, h2⟩ := KV.at' rel hk
    have e1 : (kvs.map (·.2))[i]? = some x := by rw [List.getElem?_map, h1] <;> rfl
    rw [hv, List.getElem?_map] at e1
    obtain ⟨j, hj, e2⟩ := Option.map_eq_some_iff.mp e1
    subst e2
    obtain ⟨t, e3⟩ := h2
    refine ⟨t, ?_⟩
    rw [e3, List.getD_eq_getElem?_getD, hj] <;> rfl
  have hlt : a < s.heap.objs.size := Heap.lt_size ho
  show wpAny _ _ (do return Value.bool (← contains (.ref p) (.int k tk))) _ _ s
  refine wpAny_bind ?_
  unfold contains
  refine wpAny_holding ?_
  rw [stdlibNamesSay?_of_typeIs hT]
  refine wpAny_bind (wpAny_specialOf hT nameless_vals ?_)
  rw [if_neg (by simp)]
  refine wpAny_bind (wpAny_callSpecialUnlessNone?_none hT nameless_vals ?_)
  refine wpAny_bind (wpAny_rule ?_)
  refine wpAny_bind (wpAny_tryCatch (wpAny_pyIter_values (v := p) (d := a) ⟨_, vw, rfl, rfl⟩ dat ?_))
  have W := (Walks.dictValues (prog := X.prog) (w := X.w) (knd := mixKind X.prog X.w) (A := X.A.in1) (I.ok.hd hc) s.heap.objs.size a (Nat.ne_of_lt hlt) vs ep).toS
  refine wpAny_bind (wpAny_runValue (contains_loop W k tk is hlv hval _ 0 _ rfl (Nat.zero_le _) ⟨⟨_, Heap.get?_push_size _ rfl, rfl, rfl⟩, dat.keep fun b u e => Heap.get?_push_of_some _ e⟩ fun s' hm => ?_))
  refine wpAny_pure (wpAny_pure ?_)
  obtain ⟨h', g2, d2, t2, o2⟩ := s'
  have eg : g2 = s.gens := hm.gens
  have ed : d2 = s.drawn := hm.drawn
  have eo : o2 = s.os := hm.os
  subst eg; subst ed; subst eo
  rw [List.drop_zero]
  refine ⟨.bl (decide (k ∈ is)), H, I.kept (t' := t2) fun b u e => hm.heap b u (fun z => ?_) (Heap.get?_push_of_some _ e), rfl, q⟩
  have z1 := List.mem_singleton.mp z
  have z2 := Heap.lt_size e
  rw [z1] at z2
  exact absurd z2 (Nat.lt_irrefl _)
/-- the ints that a dict holds -/
def valsK : List (Key × PyData) → Option (List Int)
  | [] => some []
  | (_, .int j) :: r => (valsK r).map (j :: ·)
  | _ => none
theorem valsK_ok {K : PySem.W.Frag} {F : Hp} : ∀ {xs : List (Key × V)} {kvs : List (Key × PyData)} {is : List Int}, KD K F xs kvs → valsK kvs = some is → xs.map (·.2) = is.map V.int
  | _, [], is, h, e => by cases h; cases e; rfl
  | _, (k, v) :: r, is, h, e => by
    cases h with
    | cons h1 h2 =>
      cases v with
      | int j =>
        unfold valsK at e
        obtain ⟨is', e1, e2⟩ := Option.map_eq_some_iff.mp e
        subst e2
        have h3 := h1.2
        rename_i x xs
        obtain ⟨x1, x2⟩ := x
        cases h3
        rw [List.map_cons, valsK_ok h2 e1]
        rfl
      | _ => cases e
def cInV (fa fd : VEnv → Rs RV) : VEnv → Rs RV := fun env => (fa env).bind fun a => (fd env).bind fun d => match a with
  | .d (.int k) => (rsO d.dk).bind fun kvs => (rsO (valsK kvs)).bind fun is => okB (decide (k ∈ is))
  | _ => .no
theorem e_inV (fa fd : VEnv → Rs RV) (env : VEnv) : cInV fa fd env = (fa env).bind fun a => (fd env).bind fun d => match a with
  | .d (.int k) => (rsO d.dk).bind fun kvs => (rsO (valsK kvs)).bind fun is => okB (decide (k ∈ is))
  | _ => .no := rfl
theorem snd_inV {ca : Nat → Addr} {W : WX} {K : PySem.W.Frag} {ta td : TE} {fa fd : VEnv → Rs RV} (sa : SndE K ca W ta fa) (sd : SndE K ca W td fd) : SndE K ca W (tOp rInVals ta (tValsK td)) (cInV fa fd) := by
  intro B F env σ H Q st q
  show ta σ H fun x H1 => td σ H1 fun z H2 => ∃ a kvs, z = V.ref a ∧ Rd H2 a (.dK kvs) ∧ ∀ p, H2 p = none → rInVals x (.ref p) (upd H2 p (VwO p a)) Q
  refine seqE (PostE K ca W σ F H Q) sa st q (fun _ _ h => h) (fun h => h) fun r F1 H1 v p1 g1 q1 => ?_
  refine seqE (PostE K ca W σ F H Q) sd (st.grow g1) p1 (fun _ _ h => PostX.mono g1 h) (fun h => h) fun d F2 H2 z p2 g2 q2 => ?_
  cases r with
  | d x =>
    cases x with
    | int k =>
      simp only at p2
      cases e1 : d.dk with
      | none => rw [e1] at p2; exact p2.elim
      | some kvs =>
        rw [e1] at p2
        simp only [rsO_some, Rs.bind_ok] at p2
        cases e2 : valsK kvs with
        | none => rw [e2] at p2; exact p2.elim
        | some is =>
          rw [e2] at p2
          obtain ⟨a0, xs, rfl, hp, kd⟩ := dk_ok q2 e1
          cases q1
          refine ⟨a0, xs, rfl, hp, fun p hn => ⟨k, p, a0, xs, is, rfl, rfl, upd_same, ?_, valsK_ok kd e2, ?_⟩⟩
          · rcases hp with hp | ⟨o, hp⟩
            · exact .inl (by rw [upd_ne (ne_of_none hp hn)]; exact hp)
            · exact .inr ⟨o, by rw [upd_ne (ne_of_none hp hn)]; exact hp⟩
          · have g3 := Grow.newO g2.cfg (VwO p a0) hn (fun _ z => by cases z)
            exact p2 _ _ _ ((g1.trans g2).trans g3) (.bl _)
    | _ => exact p2.elim
  | _ => exact p2.elim
theorem ve_inV {ca : Nat → Addr} {W : WX} {X : Cx} {a oe : Expr} {fa fd : VEnv → Rs RV} {pos apos mpos : Pos} (hc : X.calm = true) (ha : VE ca W X a fa) (hd : VE ca W X oe fd) (hbase : attributeBase oe "values" X.env (eval oe X.env) = eval oe X.env := by rfl) (hline : (apos.endLine == mpos.line) = true := by rfl)
    (hm : behindInMarks .In (.Call (.Attribute oe "values" apos) [] [] mpos) = false := by rfl) : VE ca W X (.Compare a [.In] [.Call (.Attribute oe "values" apos) [] [] mpos] pos) (cInV fa fd) := by
  obtain ⟨ta, pa, sa⟩ := ha
  obtain ⟨td, pd, sd⟩ := hd
  exact ⟨_, pe_cmpR (or_inVals hc) pa (pe_valsK pd hbase hline) hm, snd_inV sa sd⟩
theorem vt_inV {ca : Nat → Addr} {W : WX} {X : Cx} {a oe : Expr} {fa fd : VEnv → Rs RV} {pos apos mpos : Pos} (hc : X.calm = true) (ha : VE ca W X a fa) (hd : VE ca W X oe fd) (hbase : attributeBase oe "values" X.env (eval oe X.env) = eval oe X.env := by rfl) (hline : (apos.endLine == mpos.line) = true := by rfl)
    (hm : behindInMarks .In (.Call (.Attribute oe "values" apos) [] [] mpos) = false := by rfl) : VT ca W X (.Compare a [.In] [.Call (.Attribute oe "values" apos) [] [] mpos] pos) (cB (cInV fa fd)) := by
  obtain ⟨ta, pa, sa⟩ := ha
  obtain ⟨td, pd, sd⟩ := hd
  exact ⟨_, pt_cmpR (or_inVals hc) pa (pe_valsK pd hbase hline) hm, snd_test (snd_inV sa sd)⟩
end VL

namespace VL
open PySem PySem.Spec PyProof.Rows L2
/-! ## a comprehension over a dict of its own, whose keys are ints or texts -/
def kPD : Key → PyData
  | .inl i => .int i
  | .inr s => .str s
def borE (env : VEnv) : VEnv := env.map (Option.map RV.bor)
theorem kv_dq {K : PySem.W.Frag} {F : Hp} (k : Key) : Dq K F (kV k) (kPD k) := by
  cases k with
  | inl i => exact .int i
  | inr s => exact .str s
theorem kd_keys {K : PySem.W.Frag} {F F' : Hp} : ∀ {ws : List (Key × V)} {kvs : List (Key × PyData)}, KD K F ws kvs → DqA K F' (ws.map fun e => kV e.1) (kvs.map fun e => kPD e.1)
  | _, _, .nil => .nil
  | a :: _, b :: _, .cons h r => .cons (show Dq K F' (kV a.1) (kPD b.1) by rw [h.1]; exact kv_dq _) (kd_keys r)
theorem bor_isB (r : RV) : r.bor.own = false := by cases r <;> rfl
theorem jw_keysK {G : Hp} {d : Addr} {o : Obj} {ws : List (Key × V)} (h : G d = some (.frz o (.dK ws))) : JWalk (Itk d o ws) G (ws.map fun e => kV e.1) where
  go := fun i H s hi => ⟨s _ _ h, by simpa using hi⟩
  yld := fun i H x H' s y hi => by
    obtain ⟨e1, k, v, e2, e3⟩ := y
    exact ⟨e1, by rw [List.getElem?_map, e2, e3]; rfl⟩
  stop := fun H s => ⟨s _ _ h, by simp⟩
section
variable {K : PySem.W.Frag} {B : Base} {F H F1 H1 : Hp} {env : VEnv} {σ : L2.St} {d : Addr} {ws : List (Key × V)} {od : Obj}
theorem lock_st (st : StOk K B F env σ H) (hd : H d = some (.dK ws)) (od : Obj) (fd : F d = none) : StOk K ⟨F, upd H d (.frz od (.dK ws))⟩ F (borE env) σ (upd H d (.frz od (.dK ws))) := by
  have cfg : Cfg F (upd H d (.frz od (.dK ws))) := ⟨fun b o h => by
      have : b ≠ d := fun z => by rw [z, fd] at h; cases h
      rw [upd_ne this]
      exact st.cfg.sub b o h, fun b xs h => by
      by_cases z : b = d
      · rw [z, upd_same] at h; cases h
      · rw [upd_ne z] at h; exact st.cfg.tup b xs h⟩
  have at_ : ∀ (i : Nat) (r : RV), (borE env)[i]? = some (some r) → ∃ r0, env[i]? = some (some r0) ∧ r = r0.bor := fun i r h => by
    unfold borE at h
    rw [List.getElem?_map] at h
    obtain ⟨x, h1, h2⟩ := Option.map_eq_some_iff.mp h
    cases x with
    | none => cases h2
    | some r0 => exact ⟨r0, h1, (Option.some.inj h2).symm⟩
  have ne : ∀ {p : Addr} {o : HO}, H p = some o → o ≠ .dK ws → p ≠ d := fun h n z => by
    rw [z, hd] at h
    exact n (Option.some.inj h).symm
  refine ⟨Grow.refl cfg, by unfold borE; rw [List.length_map]; exact st.len, fun i r h => ?_, fun i r p h hb hs => ?_, fun i j r r' p _ h _ ho => ?_⟩
  · obtain ⟨r0, h0, rfl⟩ := at_ i r h
    obtain ⟨v, e1, q⟩ := st.sl i r0 h0
    refine ⟨v, e1, ?_⟩
    have rd : ∀ (p : Addr) (vs : List (Key × V)), Rd H p (.dK vs) → Rd (upd H d (.frz od (.dK ws))) p (.dK vs) := fun p vs h => by
      rcases h with h | ⟨o, h⟩
      · by_cases z : p = d
        · rw [z, hd] at h
          cases h
          exact .inr ⟨od, by rw [z, upd_same]⟩
        · exact .inl (by rw [upd_ne z]; exact h)
      · have z : p ≠ d := ne h fun z => by cases z
        exact .inr ⟨o, by rw [upd_ne z]; exact h⟩
    cases r0 with
    | d x => exact q
    | ol xs => obtain ⟨p, vs, e, n0, f, hp, q⟩ := q; exact ⟨p, vs, e, by rw [upd_ne (ne hp fun z => by cases z)]; exact hp, q⟩
    | bl xs => obtain ⟨p, vs, e, hp, q⟩ := q; exact ⟨p, vs, e, by rw [upd_ne (ne hp fun z => by cases z)]; exact hp, q⟩
    | od xs => obtain ⟨p, vs, e, n0, f, hp, q⟩ := q; exact ⟨p, vs, e, rd p vs (.inl hp), q⟩
    | bd xs => obtain ⟨p, vs, e, hp, q⟩ := q; exact ⟨p, vs, e, rd p vs hp, q⟩
    | ot xs => obtain ⟨p, vs, e, n0, f, hp, q⟩ := q; exact ⟨p, vs, e, by rw [upd_ne (ne hp fun z => by cases z)]; exact hp, q⟩
    | bt xs => obtain ⟨p, vs, e, hp, q⟩ := q; exact ⟨p, vs, e, by rw [upd_ne (ne hp fun z => by cases z)]; exact hp, q⟩
    | sc ns => exact q
    | t3 x ys kvs => exact t3_mono (Same.refl _) q
    | fd kvs => exact fd_mono (Same.refl _) q
    | xo a dd c fs => obtain ⟨e, xs, hp, q⟩ := q; exact ⟨e, xs, by rw [upd_ne (ne hp fun z => by cases z)]; exact hp, q⟩
  · obtain ⟨r0, h0, rfl⟩ := at_ i r h
    obtain ⟨v, e1, q⟩ := st.sl i r0 h0
    rw [hs] at e1
    cases e1
    have some_ : ∀ {o : HO}, H p = some o → ∃ o, (upd H d (.frz od (.dK ws))) p = some o := fun {o} h => by
      by_cases z : p = d
      · exact ⟨_, by rw [z, upd_same]⟩
      · exact ⟨o, by rw [upd_ne z]; exact h⟩
    cases r0 with
    | ol xs => obtain ⟨p', vs, e, n0, f, hp, q⟩ := q; cases e; exact some_ hp
    | bl xs => obtain ⟨p', vs, e, hp, q⟩ := q; cases e; exact some_ hp
    | od xs => obtain ⟨p', vs, e, n0, f, hp, q⟩ := q; cases e; exact some_ hp
    | bd xs =>
      obtain ⟨p', vs, e, hp, q⟩ := q
      cases e
      rcases hp with hp | ⟨o, hp⟩
      · exact some_ hp
      · exact some_ hp
    | ot xs => obtain ⟨p', vs, e, n0, f, hp, q⟩ := q; cases e; exact some_ hp
    | bt xs => obtain ⟨p', vs, e, hp, q⟩ := q; cases e; exact some_ hp
    | d x => cases hb
    | sc ns => cases hb
    | xo a dd c fs => cases hb
    | t3 x ys kvs => cases hb
    | fd kvs => cases hb
  · obtain ⟨r0, h0, rfl⟩ := at_ i r h
    rw [bor_isB] at ho
    cases ho
theorem unlock_grow (c : Cfg F H) (fd : F d = none) (hd : H d = some (.dK ws)) (g : Grow F (upd H d (.frz od (.dK ws))) F1 H1) : H1 d = some (.frz od (.dK ws)) ∧ Grow F H F1 (upd H1 d (.dK ws)) := by
  have h1 : H1 d = some (.frz od (.dK ws)) := g.hh _ _ upd_same
  refine ⟨h1, ⟨⟨fun b o h => ?_, fun b xs h => ?_⟩, g.ff, fun b o h => ?_, fun b o h => ?_⟩⟩
  · have : b ≠ d := fun z => by
      rw [z] at h
      rcases g.nw d o h with w | w
      · rw [fd] at w; cases w
      · rw [upd_same] at w; cases w
    rw [upd_ne this]
    exact g.cfg.sub b o h
  · by_cases z : b = d
    · rw [z, upd_same] at h; cases h
    · rw [upd_ne z] at h; exact g.cfg.tup b xs h
  · by_cases z : b = d
    · rw [z, hd] at h
      cases h
      rw [z, upd_same]
    · rw [upd_ne z]
      exact g.hh b o (by rw [upd_ne z]; exact h)
  · rcases g.nw b o h with w | w
    · exact .inl w
    · by_cases z : b = d
      · rw [z, upd_same] at w; cases w
      · rw [upd_ne z] at w; exact .inr w
end
/-- [.. for k in x if ..], x a slot with a dict of its own -/
def cLcK (i : Nat) (own : List Nat) (g : Tg) (t : VEnv → Rs Bool) (fe : VEnv → Rs RV) : VEnv → Rs RV := fun env => match env[i]? with
  | some (some (.od kvs)) => (match cLc (fun _ => .ok (kvs.map fun e => kPD e.1)) own g t fe (borE env) with
    | .ok (.ol xs) => .ok (.ol xs)
    | _ => .no)
  | _ => .no
section
variable {ca : Nat → Addr} {W : WX} {X : Cx} {pos : Pos}
theorem snd_lcK {K : PySem.W.Frag} {i : Nat} {own : List Nat} {tg : Tg} {tt : TT} {te : TE} {t : VEnv → Rs Bool} {fe : VEnv → Rs RV} (ho : ∀ i ∈ tgIx tg, i ∈ own) (s1 : SndT K ca W0 tt t) (s2 : SndE K ca W0 te fe) :
    SndE K ca W (tLockE (tLc (iKeys (tVar i)) (tgT K tg) tt te own)) (cLcK i own tg t fe) := by
  intro B F env σ H Q st p
  unfold cLcK at p
  split at p
  · rename_i kvs e1
    obtain ⟨v, hv, d, ws, rfl, n0, fd, hd, kd⟩ := st.sl i _ e1
    refine ⟨d, .dK ws, hd, trivial, fun od => ?_⟩
    have st' := lock_st st hd od fd
    have hd' : (upd H d (.frz od (.dK ws))) d = some (.frz od (.dK ws)) := upd_same
    -- the source, known to be the locked dict
    have si : SndJ K ca W (fun _ H0 R => H0 = upd H d (.frz od (.dK ws)) → R (Itk d od ws) H0) (fun _ => .ok (kvs.map fun e => kPD e.1)) := by
      intro B0 F0 env0 σ0 H0 R st0 q hH
      subst hH
      exact q (Itk d od ws) F0 _ _ (Grow.refl st0.cfg) (kd_keys kd) (jw_keysK hd')
    have main := snd_lc (W := W) ho si s1 s2 _ F (borE env) σ _ (fun v H' => H' d = some (.frz od (.dK ws)) ∧ Q v (upd H' d (.dK ws))) st'
    refine ⟨_, hv, d, od, rfl, .inl ⟨ws, hd', main ?_ rfl⟩⟩
    cases hc : cLc (fun _ => .ok (kvs.map fun e => kPD e.1)) own tg t fe (borE env) with
    | no => rw [hc] at p; exact p.elim
    | ex c fs => rw [hc] at p; exact p.elim
    | ok r =>
      rw [hc] at p
      cases r with
      | ol xs =>
        intro F' H' v g q
        obtain ⟨h1, g2⟩ := unlock_grow st.cfg fd hd g
        obtain ⟨p0, vs, e, m0, f0, hp, q⟩ := q
        have hne : p0 ≠ d := fun z => by rw [z, upd_same] at m0; cases m0
        refine ⟨h1, p F' _ v g2 ⟨p0, vs, e, ?_, f0, ?_, q⟩⟩
        · rw [upd_ne hne] at m0; exact m0
        · rw [upd_ne hne]; exact hp
      | _ => exact p.elim
  · exact p.elim
theorem ve_lcK (i : Nat) {x : Str} {pn : Pos} {elt tg : Expr} {ifs : List Expr} {scope : Scope} {own : List (Str × Nat)} {g : Tg} {t : VEnv → Rs Bool} {fe : VEnv → Rs RV} (hc : X.calm = true) (hN : X.N.Nodup) (ok : BlkOk X.N X.env.scope scope own) (ho : ∀ i ∈ tgIx g, i ∈ own.map (·.2))
    (hg : ∀ (s : Shared) (H : Hp) (C : Addr) (cl : List (Str × Addr)) (fp : List Addr), VG (X.blk s H scope (compEnvC scope cl C X.env) fp) tg g) (ht : ∀ (s : Shared) (H : Hp) (C : Addr) (cl : List (Str × Addr)) (fp : List Addr), VTs ca W0 (X.blk s H scope (compEnvC scope cl C X.env) fp) ifs t)
    (he : ∀ (s : Shared) (H : Hp) (C : Addr) (cl : List (Str × Addr)) (fp : List Addr), VE ca W0 (X.blk s H scope (compEnvC scope cl C X.env) fp) elt fe)
    (hNi : X.N[i]? = some x := by rfl) (hv : Vis X.env.scope x := by first | exact Or.inl rfl | exact Or.inr (Or.inl rfl) | exact Or.inr (Or.inr rfl)) (hd : (x == ("__debug__" : Str)) = false := by decide) (hcd : (x == ("__classdict__" : Str)) = false := by decide) (hs : ∀ z, foldedSetIterable (.Name x pn) X.env z = pure z := by intro _; rfl) :
    VE ca W X (.ListComp elt [⟨tg, .Name x pn, ifs, 0⟩] scope pos) (cLcK i (own.map (·.2)) g t fe) :=
  ⟨_, pe_lock (pe_lc hc hN (pi_keys (pe_var hNi hv hd hcd)) ok (fun s H C cl fp => (show PG _ tg (tgT X.K g) from (hg s H C cl fp).ex)) (fun s H C cl fp => (show PTs _ ifs (tUT X.K ca W0 t) from (ht s H C cl fp).pt)) (fun s H C cl fp => (show PE _ elt (tU X.K ca W0 fe) from (he s H C cl fp).pe)) hs),
    snd_lcK ho (fun B F env σ H Q st q => ⟨B, F, env, st, q⟩ : SndT X.K ca W0 (tUT X.K ca W0 t) t) (fun B F env σ H Q st q => ⟨B, F, env, st, q⟩ : SndE X.K ca W0 (tU X.K ca W0 fe) fe)⟩
/-- y = [.. for k in x ..] on one line -/
theorem vs_setLcK (i : Nat) {j : Nat} {x y : Str} {pn py : Pos} {elt tg : Expr} {ifs : List Expr} {scope : Scope} {own : List (Str × Nat)} {spos : Pos} {g : Tg} {t : VEnv → Rs Bool} {fe : VEnv → Rs RV} (hc : X.calm = true) (hN : X.N.Nodup) (hy : X.N[j]? = some y) (hyl : X.env.scope.names.lookup y = some .local)
    (hsw : swapsWith (.ListComp elt [⟨tg, .Name x pn, ifs, 0⟩] scope pos) (some (.Name y py)) spos.line X.env = pure true) (ok : BlkOk X.N X.env.scope scope own) (ho : ∀ i ∈ tgIx g, i ∈ own.map (·.2))
    (hg : ∀ (s : Shared) (H : Hp) (C : Addr) (cl : List (Str × Addr)) (fp : List Addr), VG (X.blk s H scope (compEnvC scope cl C X.env) fp) tg g) (ht : ∀ (s : Shared) (H : Hp) (C : Addr) (cl : List (Str × Addr)) (fp : List Addr), VTs ca W0 (X.blk s H scope (compEnvC scope cl C X.env) fp) ifs t)
    (he : ∀ (s : Shared) (H : Hp) (C : Addr) (cl : List (Str × Addr)) (fp : List Addr), VE ca W0 (X.blk s H scope (compEnvC scope cl C X.env) fp) elt fe)
    (hNi : X.N[i]? = some x := by rfl) (hv : Vis X.env.scope x := by first | exact Or.inl rfl | exact Or.inr (Or.inl rfl) | exact Or.inr (Or.inr rfl)) (hd : (x == ("__debug__" : Str)) = false := by decide) (hcd : (x == ("__classdict__" : Str)) = false := by decide) (hs : ∀ z, foldedSetIterable (.Name x pn) X.env z = pure z := by intro _; rfl) :
    VS ca W X (.Assign [.Name y py] (.ListComp elt [⟨tg, .Name x pn, ifs, 0⟩] scope pos) spos) (sSet j (cLcK i (own.map (·.2)) g t fe)) := by
  refine ⟨_, ps_lock (ps_setLc hc hN hy hyl hsw (pi_keys (pe_var hNi hv hd hcd)) ok (fun s H C cl fp => (show PG _ tg (tgT X.K g) from (hg s H C cl fp).ex)) (fun s H C cl fp => (show PTs _ ifs (tUT X.K ca W0 t) from (ht s H C cl fp).pt)) (fun s H C cl fp => (show PE _ elt (tU X.K ca W0 fe) from (he s H C cl fp).pe)) hs), fun B F env σ H D st p => ?_⟩
  have se := snd_lcK (W := W) (i := i) (own := own.map (·.2)) ho (fun B F env σ H Q st q => ⟨B, F, env, st, q⟩ : SndT X.K ca W0 (tUT X.K ca W0 t) t) (fun B F env σ H Q st q => ⟨B, F, env, st, q⟩ : SndE X.K ca W0 (tU X.K ca W0 fe) fe)
  show tLockE (tLc (iKeys (tVar i)) (tgT X.K g) (tUT X.K ca W0 t) (tU X.K ca W0 fe) (own.map (·.2))) σ H fun x H1 => D.nx (σ.set j (some x)) H1
  exact outE se st p fun r F1 H1 v p1 g q => snd_put st g q p1
end
/-! ## dict(pairs) -/
def pairsD : List PyData → Option (List (Key × PyData))
  | [] => some []
  | .tuple [k, v] :: r => (keyD k).bind fun k => (pairsD r).map ((k, v) :: ·)
  | _ => none
theorem pairs_ok {K : PySem.W.Frag} {F : Hp} : ∀ {xs : List V} {ds : List PyData} {kvs : List (Key × PyData)}, DqA K F xs ds → pairsD ds = some kvs → ∃ (ps : List Addr) (ws : List (Key × V)), xs = ps.map V.ref ∧ Paired (fun p kv => SqT K F p [kV kv.1, kv.2]) ps ws ∧ KD K F ws kvs
  | _, [], _, h, e => by cases h; cases e; exact ⟨[], [], rfl, .nil, .nil⟩
  | _, d :: ds, kvs, h, e => by
    cases h with
    | cons h1 h2 =>
      cases d with
      | tuple zs =>
        match zs, h1, e with
        | [k, v], h1, e =>
          unfold pairsD at e
          obtain ⟨k', e1, e2⟩ := Option.bind_eq_some_iff.mp e
          obtain ⟨r, e3, e4⟩ := Option.map_eq_some_iff.mp e2
          subst e4
          obtain ⟨ps, ws, rfl, hp, hk⟩ := pairs_ok h2 e3
          cases h1 with
          | @tup a xs' _ s1 s2 =>
            cases s2 with
            | cons q1 q2 =>
              cases q2 with
              | cons q2 q3 =>
                cases q3
                obtain rfl := keyD_ok q1 e1
                exact ⟨a :: ps, (k', _) :: ws, rfl, .cons s1.1 hp, .cons ⟨rfl, q2⟩ hk⟩
        | [], h1, e => cases e
        | [_], h1, e => cases e
        | _ :: _ :: _ :: _, h1, e => cases e
      | _ => cases e
theorem merge_ok {K : PySem.W.Frag} {F : Hp} : ∀ {ws : List (Key × V)} {kvs : List (Key × PyData)} {as : List (Key × V)} {bs : List (Key × PyData)}, KD K F ws kvs → KD K F as bs → KD K F (ws.foldl (fun acc kv => putK acc kv.1 kv.2) as) (kvs.foldl (fun acc kv => dPut acc kv.1 kv.2) bs)
  | [], [], _, _, _, h => h
  | a :: ws, b :: kvs, as, bs, .cons h r, k => by
    rw [List.foldl_cons, List.foldl_cons, h.1]
    exact merge_ok r (k.put b.1 h.2)
  | [], _ :: _, _, _, h, _ => by cases h
  | _ :: _, [], _, _, h, _ => by cases h
def gDictC : List RV → Rs RV
  | [r] => (rsO r.qv).bind fun xs => (rsO (pairsD xs)).bind fun kvs => .ok (.od (kvs.foldl (fun acc kv => dPut acc kv.1 kv.2) []))
  | _ => .no
theorem e_dictC (r : RV) : gDictC [r] = (rsO r.qv).bind fun xs => (rsO (pairsD xs)).bind fun kvs => .ok (.od (kvs.foldl (fun acc kv => dPut acc kv.1 kv.2) [])) := rfl
theorem paired_sqt {K : PySem.W.Frag} {F H : Hp} (e : Same F H) : ∀ {ps : List Addr} {ws : List (Key × V)}, Paired (fun p kv => SqT K F p [kV kv.1, kv.2]) ps ws → Paired (fun p kv => SqT K H p [kV kv.1, kv.2]) ps ws
  | _, _, .nil => .nil
  | _, _, .cons h r => .cons (same_seqT e h) (paired_sqt e r)
theorem c_dictC {K : PySem.W.Frag} {ca : Nat → Addr} : CaS K ca (fun xs H Q => ∃ (a : Addr) (ps : List Addr) (kvs : List (Key × V)), xs = [.ref a] ∧ SqL K H a (ps.map V.ref) ∧ Paired (fun p kv => SqT K H p [kV kv.1, kv.2]) ps kvs ∧ ∀ p, H p = none → Q (.ref p) (upd H p (.dK (mergeK [] kvs)))) gDictC := by
  intro W σ F0 H0 F H vs as Q gr h p
  unfold gDictC at p
  split at p
  · rename_i r
    obtain ⟨v, rfl, hx⟩ := pr1 h
    cases e : r.qv with
    | none => rw [e] at p; exact p.elim
    | some xs =>
      rw [e] at p
      simp only [rsO_some, Rs.bind_ok] at p
      cases e2 : pairsD xs with
      | none => rw [e2] at p; exact p.elim
      | some kvs =>
        rw [e2] at p
        simp only [rsO_some, Rs.bind_ok] at p
        obtain ⟨q, ws, rfl, hq, dq⟩ := qv_ok gr.cfg.sub hx e
        obtain ⟨ps, wk, rfl, h1, h2⟩ := pairs_ok dq e2
        refine ⟨q, ps, wk, rfl, hq, paired_sqt gr.cfg.sub h1, fun a ha => ?_⟩
        have g2 := Grow.newO gr.cfg (.dK (mergeK [] wk)) ha (fun _ z => by cases z)
        exact p _ _ _ (gr.trans g2) ⟨a, _, rfl, same_none gr.hh ha, same_none gr.cfg.sub ha, upd_same, merge_ok h2 .nil⟩
  · exact p.elim
/-! ## list(range(n)) -/
def cLR (fa : VEnv → Rs RV) : VEnv → Rs RV := fun env => (fa env).bind fun r => match r with
  | .d (.int n) => if 0 ≤ n ∧ n ≤ 1000000 then .ok (.ol ((List.range n.toNat).map fun i : Nat => PyData.int (i : Int))) else .no
  | _ => .no
theorem e_LR (fa : VEnv → Rs RV) (env : VEnv) : cLR fa env = (fa env).bind fun r => match r with
  | .d (.int n) => if 0 ≤ n ∧ n ≤ 1000000 then .ok (.ol ((List.range n.toNat).map fun i : Nat => PyData.int (i : Int))) else .no
  | _ => .no := rfl
theorem rg_dq {K : PySem.W.Frag} {F : Hp} (n : Int) : DqA K F (rgV 0 n) ((List.range n.toNat).map fun i : Nat => PyData.int (i : Int)) := by
  have : ∀ xs : List Nat, DqA K F (xs.map fun i : Nat => V.int (0 + (i : Int))) (xs.map fun i : Nat => PyData.int (i : Int)) := by
    intro xs
    induction xs with
    | nil => exact .nil
    | cons x xs ih => exact .cons (by show Dq K F (V.int (0 + (x : Int))) (PyData.int (x : Int)); rw [Int.zero_add]; exact .int _) ih
  have h := this (List.range n.toNat)
  unfold rgV
  rw [Int.sub_zero]
  exact h
theorem ve_LR {ca : Nat → Addr} {W : WX} {X : Cx} {a : Expr} {fa : VEnv → Rs RV} {p p2 pos pos2 : Pos} (hc : X.calm = true) (hg : Gl X "list") (hm : X.mg "list" = none) (hg2 : Gl X "range") (hm2 : X.mg "range" = none) (h : VE ca W X a fa)
    (na : starEach [a] X.env = (false, eval a X.env) :: starEach [] X.env := by rfl) (na2 : starEach [Expr.Call (.Name "range" p2) [a] [] pos2] X.env = (false, eval (Expr.Call (.Name "range" p2) [a] [] pos2) X.env) :: starEach [] X.env := by rfl) :
    VE ca W X (.Call (.Name "list" p) [.Call (.Name "range" p2) [a] [] pos2] [] pos) (cLR fa) := by
  obtain ⟨t, pe, s⟩ := h
  refine ⟨_, pe_listRg hc hg hm (prg_1 hg2 hm2 pe na) na2, fun B F env σ H Q st q => ?_⟩
  show t σ H fun x H1 => ∃ n, x = V.int n ∧ RgOk 0 n ∧ ∀ q, H1 q = none → Q (.ref q) (upd H1 q (.lst (rgV 0 n)))
  refine seqE (PostE X.K ca W σ F H Q) s st q (fun _ _ h => h) (fun h => h) fun r F1 H1 v p1 g1 q1 => ?_
  cases r with
  | d x =>
    cases x with
    | int n =>
      simp only at p1
      split at p1
      · rename_i hn
        cases q1
        refine ⟨n, rfl, RgOk.of_le (by omega) (by omega) (by omega) hn.1, fun l hl => ?_⟩
        have g2 := Grow.newO g1.cfg (.lst (rgV 0 n)) hl (fun _ z => by cases z)
        exact p1 _ _ _ (g1.trans g2) ⟨l, _, rfl, same_none g1.hh hl, same_none g1.cfg.sub hl, upd_same, rg_dq n⟩
      · exact p1.elim
    | _ => exact p1.elim
  | _ => exact p1.elim
end VL

namespace VL
open PySem PySem.Spec PyProof.Rows L2
/-! ## t.index(x), l.index(x) -/
def tyN (K : PySem.W.Frag) (x : V) (H : Hp) : Prop := ∃ a xs, x = .ref a ∧ SqN K H a xs
theorem ty_N {X : Cx} : TyOk X "tuple" (tyN X.K) := by
  intro pins σ H s x v I r ty
  obtain ⟨a, xs, rfl, hs, nd⟩ := ty
  cases r
  obtain ⟨its, _, ⟨o, ho, hc, n, hd⟩, _⟩ := I.tuple hs
  refine ⟨⟨o, ho, hc⟩, fun b e => ?_⟩
  cases e
  refine ⟨o, ho, ?_⟩
  rcases nd with ⟨o2, u, h1, h2⟩ | ⟨o2, h1, h2⟩
  · have z : s.heap.get? a = some o2 := (I.hok a _ h1).1
    rw [ho] at z
    cases z
    exact h2
  · have z := I.kIn a o2 h1
    rw [ho] at z
    cases z
    exact h2
def rIxT (K : PySem.W.Frag) : V → List V → Hp → VK → Prop := fun x xs H Q => ∃ (a : Addr) (y : V) (d : PyData) (vs : List V) (ds : List PyData) (j : Nat) (z : PyData), x = V.ref a ∧ xs = [y] ∧ SqT K H a vs ∧ DpAll K H vs ds ∧ Dp K H y d ∧
  SeqAt.shaped (.tuple ds) = true ∧ SeqAt.shaped d = true ∧ ds[j]? = some z ∧ PyData.eqv z d = true ∧ (∀ (m : Nat) (w : PyData), m < j → ds[m]? = some w → PyData.eqv w d = false) ∧ Q (.int (j : Nat)) H
theorem mt_ixT {X : Cx} (hu : X.A.units + 65 < cLine) : MtR X "tuple.index" (rIxT X.K) := by
  intro pins s σ H x xs v us Q I rx rxs h
  obtain ⟨a, y, d, vs, ds, j, z, rfl, rfl, hs, ha, hy, sl, sd, hz, hzj, hno, q⟩ := h
  cases rx
  cases rxs with
  | cons ry rt =>
    rename_i uy ut
    cases rt
    obtain ⟨bs, r1⟩ := Dp.reads I d y uy hy ry
    have hxs : PyData.canLayAll0 ds = true := SeqAt.canLay_of_shaped (d := .tuple ds) sl
    have hroom : X.A.units + 1 + min (PyData.depthAll ds) d.depth < cLine := room_in_shaped sd hu
    obtain ⟨its, rv, ⟨⟨cls, dd, data, sls⟩, ho, hc, n, hdt⟩, hlen⟩ := I.tuple hs
    simp only at hc hdt
    subst hc hdt
    obtain ⟨as, h4⟩ := Dp.readsAll I ds _ its ha rv
    have hn : its.length = ds.length := SeqAt.ReadsAll.length ds its as h4
    have hmap : its.map (SeqAt.readOf s.heap) = ds := SeqAt.readsAll_map ds its as hxs h4
    obtain ⟨hjd, _⟩ := List.getElem?_eq_some_iff.mp hz
    have hj : j < its.toArray.size := by rw [List.size_toArray]; omega
    have at_ : ∀ (m : Nat) (hm : m < its.toArray.size) (w : PyData), ds[m]? = some w → SeqAt.readOf s.heap its.toArray[m] = w := fun m hm w hw => by
      have hml : m < its.length := by simpa using hm
      rw [← hmap, List.getElem?_map, List.getElem?_eq_getElem hml] at hw
      have e1 : SeqAt.readOf s.heap its[m] = w := Option.some.inj (show some (SeqAt.readOf s.heap its[m]) = some w from hw)
      simpa using e1
    refine call_meets PySem.F.slot_tuple_index ⟨_, ho, rfl⟩ PySem.F.entry_tuple_index (PySem.F.args_tuple_index_2 _ _) (TI.tuple_indexAt a its.toArray n dd sls uy (fun u => PyData.eqv (SeqAt.readOf s.heap u) d) j hj ?_ ?_)
      ⟨ho, SeqAt.items_eqAt (vs := its.toArray) (show ReadsAll s.heap its.toArray.toList ds as from h4) r1 hxs (SeqAt.canLay_of_shaped sd) hroom, ⟨.int (j : Nat), H, I.tok _, ⟨_, rfl⟩, q⟩⟩
    · show PyData.eqv (SeqAt.readOf s.heap its.toArray[j]) d = true
      rw [at_ j hj z hz]
      exact hzj
    · intro m hm hmj
      have hz' : ds[m]? = some (ds[m]'(by omega)) := List.getElem?_eq_getElem (by omega)
      show PyData.eqv (SeqAt.readOf s.heap its.toArray[m]) d = false
      rw [at_ m hm _ hz']
      exact hno m _ hmj hz'
/-- the first place of an equal one -/
def gIdxD (ds : List PyData) (r : RV) : Rs RV := (rsO r.data).bind fun x => if SeqAt.shaped x = true ∧ SeqAt.shaped (.tuple ds) = true ∧ SeqAt.shaped (.list ds) = true then (rsO (ds.findIdx? fun z => PyData.eqv z x)).bind fun j => okI (j : Int) else .no
def cIdxT (fa fb : VEnv → Rs RV) : VEnv → Rs RV := fun env => (fa env).bind fun x => (rsO x.tv).bind fun ds => (fb env).bind fun y => gIdxD ds y
def cIdxL (fa fb : VEnv → Rs RV) : VEnv → Rs RV := fun env => (fa env).bind fun x => (rsO x.qv).bind fun ds => (fb env).bind fun y => gIdxD ds y
theorem e_idxT (fa fb : VEnv → Rs RV) (env : VEnv) : cIdxT fa fb env = (fa env).bind fun x => (rsO x.tv).bind fun ds => (fb env).bind fun y => gIdxD ds y := rfl
theorem e_idxL (fa fb : VEnv → Rs RV) (env : VEnv) : cIdxL fa fb env = (fa env).bind fun x => (rsO x.qv).bind fun ds => (fb env).bind fun y => gIdxD ds y := rfl
theorem gIdxD_out {P : Rs RV → Prop} {ds : List PyData} {r : RV} (hn : ¬ P .no) (h : P (gIdxD ds r)) : ∃ (d : PyData) (j : Nat) (z : PyData), r.data = some d ∧ SeqAt.shaped d = true ∧ SeqAt.shaped (.tuple ds) = true ∧ SeqAt.shaped (.list ds) = true ∧ ds[j]? = some z ∧ PyData.eqv z d = true ∧
    (∀ (m : Nat) (w : PyData), m < j → ds[m]? = some w → PyData.eqv w d = false) ∧ P (okI (j : Int)) := by
  unfold gIdxD at h
  cases e1 : r.data with
  | none => rw [e1] at h; exact absurd h hn
  | some d =>
    rw [e1] at h
    simp only [rsO_some, Rs.bind_ok] at h
    split at h
    · rename_i s
      cases e2 : ds.findIdx? fun z => PyData.eqv z d with
      | none => rw [e2] at h; exact absurd h hn
      | some j =>
        rw [e2] at h
        simp only [rsO_some, Rs.bind_ok] at h
        obtain ⟨hj, h1, h2⟩ := List.findIdx?_eq_some_iff_getElem.mp e2
        refine ⟨d, j, ds[j], rfl, s.1, s.2.1, s.2.2, List.getElem?_eq_getElem hj, h1, fun m w hm hw => ?_, h⟩
        obtain ⟨hl, e3⟩ := List.getElem?_eq_some_iff.mp hw
        have := h2 m hm
        rw [e3] at this
        simpa using this
    · exact absurd h hn
section
variable {ca : Nat → Addr} {W : WX} {X : Cx} {a b : Expr} {fa fb : VEnv → Rs RV} {apos cpos : Pos}
theorem ve_idxT (hu : X.A.units + 65 < cLine) (ha : VE ca W X a fa) (hb : VE ca W X b fb)
    (hbase : attributeBase a "index" X.env (eval a X.env) = eval a X.env := by rfl)
    (hfew : ((backTo cpos (starEach [b] X.env)).all (fun x => !x.1) && (backToKw cpos (keywordEach [] X.env)).all (fun x => x.1.isSome) && decide ([b].length + ([] : List Keyword).length + (if ([] : List Keyword).isEmpty then 0 else 1) < 30)) = true := by rfl)
    (hline : (apos.endLine == cpos.line) = true := by rfl) (hs : starEach [b] X.env = (false, eval b X.env) :: starEach [] X.env := by rfl) :
    VE ca W X (.Call (.Attribute a "index" apos) [b] [] cpos) (cIdxT fa fb) := by
  obtain ⟨ta, pa, sa⟩ := ha
  obtain ⟨tb, pb, sb⟩ := hb
  refine ⟨_, pe_mG ty_N PySem.F.plainAttrs_tuple PySem.F.slot_tuple_index PySem.F.type_tuple_index (mt_ixT hu) pa (pa_cons pb pa_nil hs) hbase hfew hline hs rfl, fun B F env σ H Q st q => ?_⟩
  show ta σ H fun x H1 => tyN X.K x H1 ∧ tb σ H1 fun y H2 => rIxT X.K x [y] H2 Q
  refine seqE (PostE X.K ca W σ F H Q) sa st q (fun _ _ h => h) (fun h => h) fun r F1 H1 v p1 g1 q1 => ?_
  cases e1 : r.tv with
  | none => rw [e1] at p1; exact p1.elim
  | some ds =>
    rw [e1] at p1
    simp only [rsO_some, Rs.bind_ok] at p1
    obtain ⟨p, vs, rfl, t1, t2, dq⟩ := tv_ok g1.cfg.sub q1 e1
    refine ⟨⟨p, vs, rfl, same_seqN g1.cfg.sub t2⟩, ?_⟩
    refine seqE (PostE X.K ca W σ F H Q) sb (st.grow g1) p1 (fun _ _ h => PostX.mono g1 h) (fun h => h) fun y F2 H2 w p2 g2 q2 => ?_
    obtain ⟨d, j, z, h1, h2, h3, _, h4, h5, h6, h7⟩ := gIdxD_out (P := PostE X.K ca W σ F H Q) (fun z => z) p2
    exact ⟨p, w, d, vs, ds, j, z, rfl, rfl, same_seqT g2.hh t1, DqA.dp _ _ (DqA.mono (g2.ff.trans g2.cfg.sub) _ _ dq), data_ok g2.cfg.sub q2 h1, h3, h2, h4, h5, h6, h7 F2 H2 _ (g1.trans g2) (.int _)⟩
theorem ve_idxL (hu : X.A.units + 65 < cLine) (ha : VE ca W X a fa) (hb : VE ca W X b fb)
    (hbase : attributeBase a "index" X.env (eval a X.env) = eval a X.env := by rfl)
    (hfew : ((backTo cpos (starEach [b] X.env)).all (fun x => !x.1) && (backToKw cpos (keywordEach [] X.env)).all (fun x => x.1.isSome) && decide ([b].length + ([] : List Keyword).length + (if ([] : List Keyword).isEmpty then 0 else 1) < 30)) = true := by rfl)
    (hline : (apos.endLine == cpos.line) = true := by rfl) (hs : starEach [b] X.env = (false, eval b X.env) :: starEach [] X.env := by rfl) :
    VE ca W X (.Call (.Attribute a "index" apos) [b] [] cpos) (cIdxL fa fb) := by
  obtain ⟨ta, pa, sa⟩ := ha
  obtain ⟨tb, pb, sb⟩ := hb
  refine ⟨_, pe_bm PySem.F.plainAttrs_list PySem.F.slot_list_index PySem.F.type_list_index (mt_indexD hu) pa (pa_cons pb pa_nil hs) hbase hfew hline hs rfl, fun B F env σ H Q st q => ?_⟩
  show ta σ H fun x H1 => tyV X.K "list" x H1 ∧ tb σ H1 fun y H2 => rIndexD X.K x [y] H2 Q
  refine seqE (PostE X.K ca W σ F H Q) sa st q (fun _ _ h => h) (fun h => h) fun r F1 H1 v p1 g1 q1 => ?_
  cases e1 : r.qv with
  | none => rw [e1] at p1; exact p1.elim
  | some ds =>
    rw [e1] at p1
    simp only [rsO_some, Rs.bind_ok] at p1
    obtain ⟨p, vs, rfl, t1, dq⟩ := qv_ok g1.cfg.sub q1 e1
    refine ⟨.inl ⟨rfl, vs, t1⟩, ?_⟩
    refine seqE (PostE X.K ca W σ F H Q) sb (st.grow g1) p1 (fun _ _ h => PostX.mono g1 h) (fun h => h) fun y F2 H2 w p2 g2 q2 => ?_
    obtain ⟨d, j, z, h1, h2, _, h3, h4, h5, h6, h7⟩ := gIdxD_out (P := PostE X.K ca W σ F H Q) (fun z => z) p2
    exact ⟨p, w, d, ds, j, z, rfl, rfl, .lst (g2.hh.seq t1) (DqA.dp _ _ (DqA.mono (g2.ff.trans g2.cfg.sub) _ _ dq)), data_ok g2.cfg.sub q2 h1, h3, h2, h4, h5, h6, h7 F2 H2 _ (g1.trans g2) (.int _)⟩
end
/-! ## sorted(d.values()), the values ints -/
def rSortedV : List V → Hp → VK → Prop := fun vs H Q => ∃ (p a : Addr) (kvs : List (Key × V)) (ks : List Int), vs = [V.ref p] ∧ H p = some (VwO p a) ∧ Rd H a (.dK kvs) ∧ kvs.map (·.2) = ks.map V.int ∧ ks.length < 64 ∧
  ∀ (ys : List Int) (q : Addr), ys.Perm ks → ys.Pairwise (· ≤ ·) → H q = none → Q (.ref q) (upd H q (.lst (ys.map V.int)))
theorem cr_sortedV {X : Cx} (hc : X.calm = true) : CallR X (.builtin "sorted") rSortedV := by
  intro pins s σ H xs us Q I r q
  obtain ⟨p, a, kvs, ks, rfl, hp, ha, hks, h64, q⟩ := q
  obtain ⟨u, rfl, rx⟩ := vals1 r
  cases rx
  have vw : s.heap.get? p = some (vwObj a) := (I.hok p _ hp).1
  obtain ⟨z, lo, vs, rel, dd⟩ := dk_rd I.hok ha
  obtain ⟨ep, hat⟩ := dd.dictAt
  have hlv : vs.length = ks.length := by
    have e1 := congrArg List.length hks
    rw [List.length_map, List.length_map] at e1
    rw [← e1]
    exact (KV.length rel).symm
  have h16 : vs.length ≤ sizeLine := by rw [hlv, sizeLine_eq]; omega
  refine Calls.call_function_entry PyProof.Rows.kind_sorted PyProof.Rows.plain_sorted PyProof.Rows.entry_sorted (PyProof.Rows.args_sorted1 _) ?_
  unfold Builtin.«sorted»
  refine wpAny_bind (m := checkCount "sorted" 1 1 _) (wpAny_pure ?_)
  refine wpAny_bind (PySem.W.kdu_collect (A := X.A.in1) (PySem.W.kdl_values (knd := mixKind X.prog X.w) (kvs := vs) (ep := ep) (r := p) (d := a)) (I.ok.hd hc) ⟨⟨_, vw, rfl, rfl⟩, hat⟩ h16 fun h' tk acc hk hacc => ?_)
  have hal : acc.toList.length = ks.length := by rw [Array.length_toList, hacc.1, hlv]
  have hS : IntsAre acc.toList ks := ints_each hal fun j v e => by
    obtain ⟨k, e1⟩ := hacc.2 j v (by rw [← Array.getElem?_toList]; exact e)
    obtain ⟨x, h1, h2⟩ := KV.at' rel e1
    have e2 : (kvs.map (·.2))[j]? = some x := by rw [List.getElem?_map, h1] <;> rfl
    rw [hks, List.getElem?_map] at e2
    obtain ⟨i, hi, e3⟩ := Option.map_eq_some_iff.mp e2
    subst e3
    obtain ⟨t, e4⟩ := h2
    exact ⟨i, t, hi, e4⟩
  have I1 : Inv X pins σ H { s with heap := h', toks := tk } := I.kept hk
  refine wpAny_bind (wpAny_newList ?_ (by rw [hal, sizeLine_eq]; omega))
  have hoL : (h'.push (seqObj "list" acc.toList.toArray 0)).get? h'.objs.size = some (seqObj "list" acc.toList.toArray 0) := Heap.get?_push_size _ rfl
  show wpAny _ _ _ _ _ { s with heap := h'.push (seqObj "list" acc.toList.toArray 0), toks := tk }
  refine wpAny_bind (wpAny_holding (wpAny_call_entry PyProof.Rows.slot_list_sort ⟨_, hoL, rfl⟩ PyProof.Rows.entry_list_sort
    (PyProof.Rows.list_sort_tree (s := { s with heap := h'.push (seqObj "list" acc.toList.toArray 0), toks := tk }) hoL hS (by rw [hal]; exact h64) fun out ys g1 g2 g3 => ⟨_, rfl, ?_⟩) (PyProof.Rows.args_list_sort _)))
  obtain ⟨e', he'⟩ := PyProof.Rows.sortedHeap_at (vs := acc.toList) (out := out) hoL
  have hlen : (ys.map V.int).length ≤ sizeLine := by
    rw [List.length_map, g2.length_eq, sizeLine_eq]
    omega
  have nn : H h'.objs.size = none := I1.hok.fresh (Nat.le_refl _)
  refine wpAny_pure ⟨_, rfl, .ref h'.objs.size, upd H h'.objs.size (.lst (ys.map V.int)), I1.laid (t' := tk) (fun b u e => ?_) (Nat.le_refl _)
    (show ObjOk X.prog X.w _ _ _ (.lst (ys.map V.int)) from ⟨hlen, out.toList, e', vals_of_ints g1, by rw [Array.toArray_toList]; exact he'⟩), rfl, q ys _ g2 g3 nn⟩
  have hb : b < h'.objs.size := Heap.lt_size e
  rw [PyProof.Rows.sortedHeap_old (Nat.ne_of_lt hb) (by rw [size_push']; exact Nat.lt_succ_of_lt hb)]
  exact Heap.get?_push_of_some _ e
def cSortV (fd : VEnv → Rs RV) : VEnv → Rs RV := fun env => (fd env).bind fun d => (rsO d.dk).bind fun kvs => (rsO (valsK kvs)).bind fun is => if is.length < 64 then .ok (.ol ((isort is).map .int)) else .no
theorem e_sortV (fd : VEnv → Rs RV) (env : VEnv) : cSortV fd env = (fd env).bind fun d => (rsO d.dk).bind fun kvs => (rsO (valsK kvs)).bind fun is => if is.length < 64 then .ok (.ol ((isort is).map .int)) else .no := rfl
theorem ve_sortV {ca : Nat → Addr} {W : WX} {X : Cx} {oe : Expr} {fd : VEnv → Rs RV} {p pos apos mpos : Pos} (hc : X.calm = true) (hg : Gl X "sorted") (hm : X.mg "sorted" = none) (hd : VE ca W X oe fd) (hbase : attributeBase oe "values" X.env (eval oe X.env) = eval oe X.env := by rfl) (hline : (apos.endLine == mpos.line) = true := by rfl)
    (he : starEach [Expr.Call (.Attribute oe "values" apos) [] [] mpos] X.env = [(false, eval (Expr.Call (.Attribute oe "values" apos) [] [] mpos) X.env)] := by rfl) :
    VE ca W X (.Call (.Name "sorted" p) [.Call (.Attribute oe "values" apos) [] [] mpos] [] pos) (cSortV fd) := by
  obtain ⟨td, pd, sd⟩ := hd
  have e2 : PE X (.Call (.Name "sorted" p) [.Call (.Attribute oe "values" apos) [] [] mpos] [] pos) (tCB rSortedV (tCons (tValsK td) tNil)) := pe_callB (cr_sortedV hc) hg hm (by decide +kernel) (pa_cons (pe_valsK pd hbase hline) pa_nil he) (by decide) (by decide) he rfl
  refine ⟨_, e2, fun B F env σ H Q st q => ?_⟩
  show td σ H fun z H2 => ∃ a kvs, z = V.ref a ∧ Rd H2 a (.dK kvs) ∧ ∀ p, H2 p = none → rSortedV [.ref p] (upd H2 p (VwO p a)) Q
  refine seqE (PostE X.K ca W σ F H Q) sd st q (fun _ _ h => h) (fun h => h) fun d F2 H2 z p2 g2 q2 => ?_
  cases e1 : d.dk with
  | none => rw [e1] at p2; exact p2.elim
  | some kvs =>
    rw [e1] at p2
    simp only [rsO_some, Rs.bind_ok] at p2
    cases e2 : valsK kvs with
    | none => rw [e2] at p2; exact p2.elim
    | some is =>
      rw [e2] at p2
      simp only [rsO_some, Rs.bind_ok] at p2
      split at p2
      · rename_i h64
        obtain ⟨a0, xs, rfl, hp, kd⟩ := dk_ok q2 e1
        refine ⟨a0, xs, rfl, hp, fun p hn => ⟨p, a0, xs, is, rfl, upd_same, ?_, valsK_ok kd e2, h64, fun ys q pm so hq => ?_⟩⟩
        · rcases hp with hp | ⟨o, hp⟩
          · exact .inl (by rw [upd_ne (ne_of_none hp hn)]; exact hp)
          · exact .inr ⟨o, by rw [upd_ne (ne_of_none hp hn)]; exact hp⟩
        · have e5 : ys = isort is := sorted_uniq (pm.trans (isort_perm is).symm) so (isort_sorted is)
          subst e5
          have g3 := Grow.newO g2.cfg (VwO p a0) hn (fun _ z => by cases z)
          have g4 := Grow.newO g3.cfg (.lst ((isort is).map V.int)) hq (fun _ z => by cases z)
          exact p2 _ _ _ ((g2.trans g3).trans g4) ⟨q, _, rfl, same_none g2.hh (same_none g3.hh hq), same_none g3.cfg.sub hq, upd_same, DqA.of_ints _⟩
      · exact p2.elim
/-! ## a tuple of data, a list and a dict: returned, taken apart -/
theorem same_upd {F : Hp} {a : Addr} (o : HO) (h : F a = none) : Same F (upd F a o) := fun b u q => by rw [upd_ne (ne_of_none q h)]; exact q
/-- what stands in a dict of its own stays as it is from here on -/
def tFrz (t : TS) : TS := fun D σ H => ∃ d u, H d = some u ∧ Mut (some u) ∧ ∀ od, t D σ (upd H d (.frz od u))
theorem ps_frz {X : Cx} {st : Stmt} {t : TS} (h : PS X st t) : PS X st (tFrz t) := by
  refine ⟨fun pins s σ H D I hw => ?_⟩
  obtain ⟨d, u, hd, mu, hw⟩ := hw
  obtain ⟨od, I1⟩ := I.lock hd mu
  exact h.run pins s σ _ _ I1 (hw od)
theorem frz_st {K : PySem.W.Frag} {B : Base} {F H : Hp} {env : VEnv} {σ : L2.St} {j : Nat} {kvs : List (Key × PyData)} (st : StOk K B F env σ H) (e : env[j]? = some (some (.od kvs))) :
    ∃ d us, H d = some (.dK us) ∧ F d = none ∧ ∀ od, StOk K B (upd F d (.frz od (.dK us))) (env.set j (some (.fd kvs))) σ (upd H d (.frz od (.dK us))) := by
  obtain ⟨_, sj, d, us, rfl, d0, df, hd, qd⟩ := st.sl j _ e
  refine ⟨d, us, hd, df, fun od => ?_⟩
  have g1 : Grow B.F B.H F (upd H d (.frz od (.dK us))) := st.gr.write d0 df hd (fun _ z => by cases z)
  have g2 := g1.freeze d0 df (o := .frz od (.dK us)) upd_same
  have sm : Same F (upd F d (.frz od (.dK us))) := same_upd _ df
  have hj : j < env.length := by
    rcases Nat.lt_or_ge j env.length with h | h
    · exact h
    · rw [List.getElem?_eq_none h] at e; cases e
  refine ⟨g2, by rw [List.length_set]; exact st.len, fun i r ei => ?_, fun i r p ei hb es => ?_, fun i k r r' p ne ei ek o1 o2 s1 => ?_⟩
  · by_cases z : j = i
    · subst z
      rw [List.getElem?_set_self hj] at ei
      cases ei
      exact ⟨_, sj, d, us, rfl, ⟨od, upd_same⟩, qd.mono sm⟩
    · rw [List.getElem?_set_ne z] at ei
      obtain ⟨v, e1, q⟩ := st.sl i r ei
      refine ⟨v, e1, ?_⟩
      have nd : ∀ {p : Addr} {o : HO}, H p = some o → o ≠ .dK us → p ≠ d := fun {p o} h n z => by
        rw [z, hd] at h
        exact n (Option.some.inj h).symm
      cases r with
      | d x => exact Dq.mono sm x v q
      | ol xs =>
        obtain ⟨p, vs, ep, n0, f, hp, q⟩ := q
        have n := nd hp (fun z => by cases z)
        exact ⟨p, vs, ep, n0, by rw [upd_ne n]; exact f, by rw [upd_ne n]; exact hp, DqA.mono sm _ _ q⟩
      | bl xs =>
        obtain ⟨p, vs, ep, hp, q⟩ := q
        exact ⟨p, vs, ep, by rw [upd_ne (nd hp (fun z => by cases z))]; exact hp, DqA.mono sm _ _ q⟩
      | od xs =>
        obtain ⟨p, vs, ep, n0, f, hp, q⟩ := q
        subst ep
        have n : p ≠ d := fun z => by
          subst z
          exact st.dis j i (.od kvs) (.od xs) p z e ei rfl rfl sj e1
        exact ⟨p, vs, rfl, n0, by rw [upd_ne n]; exact f, by rw [upd_ne n]; exact hp, q.mono sm⟩
      | bd xs =>
        obtain ⟨p, vs, ep, hp, q⟩ := q
        subst ep
        have n : p ≠ d := fun z => by
          subst z
          obtain ⟨ob, hb⟩ := st.bo i _ p ei rfl e1
          rw [d0] at hb
          cases hb
        exact ⟨p, vs, rfl, hp.imp (fun w => by rw [upd_ne n]; exact w) (fun ⟨o, w⟩ => ⟨o, by rw [upd_ne n]; exact w⟩), q.mono sm⟩
      | ot xs =>
        obtain ⟨p, vs, ep, n0, f, hp, q⟩ := q
        have n := nd hp (fun z => by have z : HO.ext _ = HO.dK us := z; cases z)
        exact ⟨p, vs, ep, n0, by rw [upd_ne n]; exact f, by rw [upd_ne n]; exact hp, q.mono sm⟩
      | bt xs =>
        obtain ⟨p, vs, ep, hp, q⟩ := q
        exact ⟨p, vs, ep, by rw [upd_ne (nd hp (fun z => by have z : HO.ext _ = HO.dK us := z; cases z))]; exact hp, q.mono sm⟩
      | sc ns => obtain ⟨a, ea, q⟩ := q; exact ⟨a, ea, sm.seq q⟩
      | xo a dd c fs => obtain ⟨ea, xs, hp, q⟩ := q; exact ⟨ea, xs, by rw [upd_ne (nd hp (fun z => by cases z))]; exact hp, q.mono sm⟩
      | t3 x ys kvs => exact t3_mono sm q
      | fd kvs => exact fd_mono sm q
  · by_cases z : j = i
    · subst z
      rw [List.getElem?_set_self hj] at ei
      cases ei
      cases hb
    · rw [List.getElem?_set_ne z] at ei
      exact st.bo i r p ei hb es
  · by_cases z : j = i
    · subst z
      rw [List.getElem?_set_self hj] at ei
      cases ei
      cases o1
    · rw [List.getElem?_set_ne z] at ei
      by_cases z2 : j = k
      · subst z2
        rw [List.getElem?_set_self hj] at ek
        cases ek
        cases o2
      · rw [List.getElem?_set_ne z2] at ek
        exact st.dis i k r r' p ne ei ek o1 o2 s1
def ret3 (env : VEnv) (i : Nat) (kvs : List (Key × PyData)) (x : PyData) : Out := match env[i]? with
  | some (some (.ol ys)) => .rt (.t3 x ys kvs)
  | _ => .no
def sRet3 (fe : VEnv → Rs RV) (i j : Nat) : VEnv → Out := fun env => match env[j]? with
  | some (some (.od kvs)) => (fe (env.set j (some (.fd kvs)))).out (env.set j (some (.fd kvs))) fun r => (rsO r.toD).out (env.set j (some (.fd kvs))) fun x => ret3 (env.set j (some (.fd kvs))) i kvs x
  | _ => .no
theorem e_ret3 (fe : VEnv → Rs RV) (i j : Nat) (env : VEnv) : sRet3 fe i j env = match env[j]? with
  | some (some (.od kvs)) => (fe (env.set j (some (.fd kvs)))).out (env.set j (some (.fd kvs))) fun r => (rsO r.toD).out (env.set j (some (.fd kvs))) fun x => ret3 (env.set j (some (.fd kvs))) i kvs x
  | _ => .no := rfl
theorem e_ret3b (env : VEnv) (i : Nat) (kvs : List (Key × PyData)) (x : PyData) : ret3 env i kvs x = match env[i]? with
  | some (some (.ol ys)) => .rt (.t3 x ys kvs)
  | _ => .no := rfl
section
variable {ca : Nat → Addr} {W : WX} {X : Cx} {fa : VEnv → Rs RV}
theorem vs_ret3 (i j : Nat) {x y : Str} {e0 : Expr} {p1 p2 tpos pos : Pos} {k} (he : VE ca W X e0 fa) (hi : X.N[i]? = some x := by rfl) (hj : X.N[j]? = some y := by rfl)
    (vi : Vis X.env.scope x := by first | exact Or.inl rfl | exact Or.inr (Or.inl rfl) | exact Or.inr (Or.inr rfl)) (vj : Vis X.env.scope y := by first | exact Or.inl rfl | exact Or.inr (Or.inl rfl) | exact Or.inr (Or.inr rfl))
    (di : (x == ("__debug__" : Str)) = false := by decide) (dj : (y == ("__debug__" : Str)) = false := by decide) (ci : (x == ("__classdict__" : Str)) = false := by decide) (cj : (y == ("__classdict__" : Str)) = false := by decide)
    (h1 : starEach [e0, .Name x p1, .Name y p2] X.env = (false, eval e0 X.env) :: starEach [.Name x p1, .Name y p2] X.env := by rfl) (h2 : starEach [.Name x p1, .Name y p2] X.env = (false, eval (.Name x p1) X.env) :: starEach [.Name y p2] X.env := by rfl)
    (h3 : starEach [.Name y p2] X.env = (false, eval (.Name y p2) X.env) :: starEach [] X.env := by rfl) : VS ca W X (.Return (some (.Tuple [e0, .Name x p1, .Name y p2] k tpos)) pos) (sRet3 fa i j) := by
  obtain ⟨t, pe, se⟩ := he
  refine ⟨_, ps_frz (ps_ret (pe_tupN (pa_cons pe (pa_cons (pe_var hi vi di ci) (pa_cons (pe_var hj vj dj cj) pa_nil h3) h2) h1))), fun B F0 env0 σ H0 D st0 p => ?_⟩
  unfold sRet3 at p
  split at p
  · rename_i kvs ej
    obtain ⟨d, us, hd, df0, hst⟩ := frz_st st0 ej
    refine ⟨d, .dK us, hd, trivial, fun od => ?_⟩
    have st := hst od
    have hj2 : (env0.set j (some (.fd kvs)))[j]? = some (some (.fd kvs)) := by
      have : j < env0.length := by
        rcases Nat.lt_or_ge j env0.length with h | h
        · exact h
        · rw [List.getElem?_eq_none h] at ej; cases ej
      exact List.getElem?_set_self this
    have sm0 : Same F0 (upd F0 d (.frz od (.dK us))) := same_upd _ df0
    generalize env0.set j (some (.fd kvs)) = env at *
    generalize upd F0 d (.frz od (.dK us)) = F at *
    generalize upd H0 d (.frz od (.dK us)) = H at *
    show t σ H fun u H1 => ∃ v, σ[i]? = some (some v) ∧ ∃ w, σ[j]? = some (some w) ∧ [u, v, w].length ≤ sizeLine ∧ ∀ (o : Obj) q, o.dict = none → H1 q = none → D.rt (.ref q) (upd H1 q (.frz o (.tup [u, v, w])))
    refine outE se st (PostS.mono sm0 p) fun r F1 H1 u q1 g1 q => ?_
    cases e : r.toD with
    | none => rw [e] at q1; exact q1.elim
    | some z =>
      rw [e] at q1
      obtain ⟨F2, g2, s2, q2⟩ := frz g1 (Fz.of q e)
      simp only [rsO_some, Rs.out_ok] at q1
      unfold ret3 at q1
      split at q1
      · rename_i ys e1
        obtain ⟨_, si, l, ws, rfl, l0, lf, hl, ql⟩ := st.sl i _ e1
        obtain ⟨_, sj, d2, us2, rfl, ⟨od2, fd2⟩, qd⟩ := st.sl j _ hj2
        have st2 := st.gr.trans g2
        have lf2 : F2 l = none := g2.stillFree lf hl
        have g3 := st2.freeze l0 lf2 (g2.hh _ _ hl)
        have sm : Same F2 (upd F2 l (.lst ws)) := same_upd _ lf2
        refine ⟨_, si, _, sj, by show 3 ≤ sizeLine; rw [sizeLine_eq]; decide, fun o p no hp => ?_⟩
        have g5 := Grow.newF g3.cfg (.frz o (.tup [u, .ref l, .ref d2])) hp
        have sm5 := sm.trans g5.ff
        refine q1 _ _ _ (g3.trans g5) ⟨p, u, l, d2, ws, us2, rfl, .inl (.inr ⟨o, upd_same⟩), Dq.mono sm5 z u q2, ⟨g5.ff _ _ upd_same, DqA.mono (g2.ff.trans sm5) _ _ ql⟩, ⟨od2, (g2.ff.trans sm5) _ _ fd2⟩, qd.mono (g2.ff.trans sm5)⟩
      · exact q1.elim
  · exact p.elim
/-- its first -/
def gIx3 (a b : RV) : Rs RV := match a, b with
  | .t3 x _ _, .d (.int i) => if i = 0 then .ok (.d x) else .no
  | _, _ => .no
theorem e_ix3 (x : PyData) (ys : List PyData) (kvs : List (Key × PyData)) : gIx3 (.t3 x ys kvs) (.d (.int 0)) = .ok (.d x) := rfl
theorem s_ix3 {K : PySem.W.Frag} {ca : Nat → Addr} : Op2S K ca (rIx K) gIx3 := by
  intro W σ F0 H0 F H v1 v2 a b Q gr h1 h2 p
  unfold gIx3 at p
  split at p
  · split at p
    · rename_i i hi
      subst hi
      obtain ⟨q, w, l, d, vs, us, rfl, s, qw, _⟩ := h1
      cases h2
      exact .inr (.inl ⟨q, [w, .ref l, .ref d], 0, w, rfl, rfl, same_seqT gr.cfg.sub s, atI_zero _ _, p F H _ gr qw⟩)
    · exact p.elim
  · exact p.elim
/-- a, b, c = e -/
def sUnp3 (i j k : Nat) (fe : VEnv → Rs RV) : VEnv → Out := fun env => (fe env).out env fun r => match r with
  | .t3 x ys kvs => if i < env.length ∧ j < env.length ∧ k < env.length then .nx (((env.set i (some (.d x))).set j (some (.d (.list ys)))).set k (some (.fd kvs))) else .no
  | _ => .no
theorem e_unp3 (i j k : Nat) (fe : VEnv → Rs RV) (env : VEnv) : sUnp3 i j k fe env = (fe env).out env fun r => match r with
  | .t3 x ys kvs => if i < env.length ∧ j < env.length ∧ k < env.length then .nx (((env.set i (some (.d x))).set j (some (.d (.list ys)))).set k (some (.fd kvs))) else .no
  | _ => .no := rfl
theorem vs_unp3 {i j k : Nat} {tg e : Expr} {pos : Pos} (he : VE ca W X e fa) (hg : VG X tg (.tp [i, j, k])) (hs : swapsWithSole [tg] e pos.line X.env = pure false := by rfl) (hw : swappedStores [tg] e X.env = pure none := by rfl)
    (h1 : (assignEach [tg] X.env).map (·.2) = [assign tg X.env] := by rfl) : VS ca W X (.Assign [tg] e pos) (sUnp3 i j k fa) := by
  obtain ⟨t, pe, se⟩ := he
  refine ⟨_, ps_asg pe hg.ex hs hw h1, fun B F env σ H D st p => ?_⟩
  show t σ H fun x H1 => tgT X.K (.tp [i, j, k]) x σ H1 D.nx
  refine outE se st p fun r F1 H1 v p1 g q => ?_
  split at p1
  · rename_i x ys kvs
    split at p1
    · rename_i hl
      obtain ⟨a, w, l, d, vs, us, rfl, s, qw, ⟨ql, qs⟩, qd, qk⟩ := q
      have st1 := st.putE g hl.1 (v := w) (r := .d x) qw rfl
      have st2 := st1.putE (Grow.refl st1.cfg) (i := j) (by rw [List.length_set]; exact hl.2.1) (v := .ref l) (r := .d (.list ys)) (.lst ql qs) rfl
      have st3 := st2.putE (Grow.refl st2.cfg) (i := k) (by rw [List.length_set, List.length_set]; exact hl.2.2) (v := .ref d) (r := .fd kvs) ⟨d, us, rfl, qd, qk⟩ rfl
      exact ⟨a, [w, .ref l, .ref d], rfl, same_seqT st1.cfg.sub s, rfl, w, _, rfl, _, _, rfl, _, _, rfl, rfl, p1 _ _ _ (Same.refl _) st3⟩
    · exact p1.elim
  · exact p1.elim
/-! ## for a, b in d.items(), d a frozen dict -/
def itemsD (kvs : List (Key × PyData)) : List PyData := kvs.map fun e => .tuple [kPD e.1, e.2]
def sForI (tg : Tg) (i : Nat) (f : VEnv → Out) : VEnv → Out := fun env => match env[i]? with
  | some (some (.fd kvs)) => loopF tg f (itemsD kvs) env
  | _ => .no
theorem e_forI (tg : Tg) (i : Nat) (f : VEnv → Out) (env : VEnv) : sForI tg i f env = match env[i]? with
  | some (some (.fd kvs)) => loopF tg f (itemsD kvs) env
  | _ => .no := rfl
theorem tgEs_len : ∀ {is : List Nat} {xs : List PyData} {env env' : VEnv}, tgEs is xs env = some env' → xs.length = is.length
  | [], [], _, _, _ => rfl
  | [], _ :: _, _, _, e => by cases e
  | _ :: _, [], _, _, e => by cases e
  | i :: is, x :: xs, env, env', e => by
    unfold tgEs at e
    split at e
    · rw [List.length_cons, List.length_cons, tgEs_len e]
    · cases e
theorem kd_at {K : PySem.W.Frag} {F : Hp} : ∀ {us : List (Key × V)} {kvs : List (Key × PyData)} {i : Nat} {k : Key} {v : V}, KD K F us kvs → us[i]? = some (k, v) → ∃ d, kvs[i]? = some (k, d) ∧ Dq K F v d
  | _, _, 0, k, v, .cons (b := b) h r, e => by
    cases e
    exact ⟨b.2, by have := h.1; simp only at this; rw [this] <;> rfl, h.2⟩
  | _, _, i + 1, k, v, .cons h r, e => kd_at (i := i) r e
theorem vs_forI (i : Nat) {x : Str} {pn apos cpos tpos pos : Pos} {elts : List Expr} {kk : Nat} {body : List Stmt} {is : List Nat} {f : VEnv → Out} (hp : PassesOwn (model X.prog X.w) X.A X.env X.xe) (hc : X.calm = true) (hg : VG X (.Tuple elts kk tpos) (.tp is)) (hb : VSs ca W X body f)
    (hNi : X.N[i]? = some x := by rfl) (hv : Vis X.env.scope x := by first | exact Or.inl rfl | exact Or.inr (Or.inl rfl) | exact Or.inr (Or.inr rfl)) (hd : (x == ("__debug__" : Str)) = false := by decide) (hcd : (x == ("__classdict__" : Str)) = false := by decide)
    (hbase : attributeBase (.Name x pn) "items" X.env (eval (.Name x pn) X.env) = eval (.Name x pn) X.env := by rfl) (hline : (apos.endLine == cpos.line) = true := by rfl)
    (hs : ∀ z, foldedSetIterable (.Call (.Attribute (.Name x pn) "items" apos) [] [] cpos) X.env z = pure z := by intro _; rfl) :
    VS ca W X (.For (.Tuple elts kk tpos) (.Call (.Attribute (.Name x pn) "items" apos) [] [] cpos) body [] pos) (sForI (.tp is) i f) := by
  obtain ⟨tb, pb, sb⟩ := hb
  refine ⟨_, ps_for hp hc (pi_items (pe_var hNi hv hd hcd) hbase hline) hg.ex pb hs, fun B F env σ H D st p => ?_⟩
  unfold sForI at p
  split at p
  · rename_i kvs ei
    obtain ⟨_, si, d, us, rfl, ⟨od, fd⟩, kd⟩ := st.sl i _ ei
    refine ⟨_, si, d, od, us, rfl, st.cfg.sub _ _ fd, ?_⟩
    have hlen : us.length = kvs.length := Paired.length kd
    refine ⟨fun i m σ H => m = us.length - i ∧ i ≤ us.length ∧ ∃ F' env', Same F F' ∧ StOk X.K B F' env' σ H ∧ PostS X.K ca W B F' D (loopF (.tp is) f ((itemsD kvs).drop i) env'), ⟨_, rfl, Nat.zero_le _, F, env, Same.refl _, st, p⟩, ?_⟩
    rintro i m σ2 H2 ⟨rfl, hi, F2, env2, s2, st2, p2⟩
    have s3 : Same F H2 := s2.trans st2.cfg.sub
    by_cases hlt : i < us.length
    · obtain ⟨dd, hx, qx⟩ := kd_at kd (List.getElem?_eq_getElem hlt)
      have hx2 : (itemsD kvs)[i]? = some (.tuple [kPD us[i].1, dd]) := by unfold itemsD; rw [List.getElem?_map, hx]; rfl
      rw [drop_cons hx2] at p2
      unfold loopF at p2
      refine .inr ⟨⟨s3 _ _ fd, hlt⟩, fun σ' H' => ∃ F' env', Same F F' ∧ StOk X.K B F' env' σ' H' ∧ PostS X.K ca W B F' D (loopF (.tp is) f ((itemsD kvs).drop (i + 1)) env'), fun σ' H' z => ⟨us.length - (i + 1), by omega, rfl, hlt, z⟩, fun y H' hy => ?_⟩
      obtain ⟨q, k, v, hkv, rfl, hq, rfl⟩ := hy
      rw [List.getElem?_eq_getElem hlt] at hkv
      have hkv : us[i] = (k, v) := Option.some.inj hkv
      cases e3 : tgE (.tp is) (.tuple [kPD us[i].1, dd]) env2 with
      | none => rw [e3] at p2; exact p2.elim
      | some env3 =>
        rw [e3] at p2
        simp only at p2
        have g4 := Grow.newF st2.cfg (.tup [kV k, v]) hq
        have s4 : Same F (upd F2 q (.tup [kV k, v])) := s2.trans g4.ff
        have hls : [kV k, v].length = is.length := tgEs_len (xs := [kPD us[i].1, dd]) e3
        refine ⟨q, [kV k, v], rfl, .inl (.inl upd_same), hls, snd_tgs (st2.grow g4) (.cons (by rw [hkv]; exact kv_dq k) (.cons (Dq.mono s4 dd v (by have qx : Dq X.K F us[i].2 dd := qx; rw [hkv] at qx; exact qx)) .nil)) e3 fun st3 => ?_⟩
        refine sb B _ env3 _ _ _ st3 ?_
        cases e4 : f env3 with
        | nx env' => rw [e4] at p2; exact fun F' σ' H' s st' => ⟨F', env', s4.trans s, st', PostS.mono (g4.ff.trans s) p2⟩
        | ct env' => rw [e4] at p2; exact fun F' σ' H' s st' => ⟨F', env', s4.trans s, st', PostS.mono (g4.ff.trans s) p2⟩
        | bk env' => rw [e4] at p2; exact PostS.mono g4.ff p2
        | rt r => rw [e4] at p2; exact PostS.mono g4.ff p2
        | ex c fs env' => rw [e4] at p2; exact PostS.mono g4.ff p2
        | no => rw [e4] at p2; exact p2
    · have e5 : i = us.length := by omega
      subst e5
      rw [List.drop_eq_nil_of_le (by unfold itemsD; rw [List.length_map, hlen]; exact Nat.le_refl _)] at p2
      exact .inl ⟨⟨s3 _ _ fd, Nat.le_refl _⟩, p2 F2 σ2 H2 (Same.refl _) st2⟩
  · exact p.elim
end
end VL
namespace My
open PySem PySem.Spec PyProof.Rows L2 VL TL
def mt_TidyError : Nat → Option Bool
  | 1 => some true
  | 3 => some true
  | _ => none
def tk_JoinError : Nat → Option Bool
  | 1 => some false
  | 3 => some true
  | _ => none
def tk_PlanError : Nat → Option Bool
  | 1 => some true
  | 3 => some false
  | _ => none
def tk_CodeError : Nat → Option Bool
  | 1 => some false
  | 3 => some false
  | _ => none
def cs_place : Nat → Bool
  | 1 => true
  | 3 => true
  | _ => false
def cs_what : Nat → Bool
  | 1 => true
  | 3 => true
  | _ => false
noncomputable def B__law_cell : VEnv → Out :=
  (sSeq (sIf (cB (c2 gLt (cV 1) (cA gLen (aC (cV 0) aN)))) (sRet (c2 gIx (cV 0) (cV 1))) sNil)
    (sRet (cC (.int 0))))
noncomputable def F__law_cell : List RV → Rs RV := fnD 2 B__law_cell
noncomputable def L0__law_draw : VEnv → Out :=
  (sSeq (sApp 4 (c2 gMod (cV 3) (cV 5)))
    (sSet 3 (c2 gDiv (cV 3) (cV 5))))
noncomputable def L1__law_draw : VEnv → Out :=
  (sSeq (sSet 6 (c2 gMod (c2 gAdd (c2 gAdd (c2 gMul (cV 6) (cC (.int 48271))) (cC (.int 11))) (cV 7)) (cC (.int 2147483647))))
    (sSeq (sSet 6 (c2 gMod (c2 gAdd (c2 gMul (cV 6) (cC (.int 69621))) (cC (.int 3))) (cC (.int 2147483647))))
    (sApp 4 (c2 gMod (c2 gDiv (cV 6) (cC (.int 7))) (c2 gIx (cV 2) (cV 7))))))
noncomputable def B__law_draw : VEnv → Out :=
  (sSeq (sSet 3 (cA (fun rs => if rs.length = 2 then F__law_cell (rs.map RV.arg) else .no) (aC (cV 0) (aC (cV 1) aN))))
    (sSeq (sIf (cB (c2 gLt (cV 3) (cC (.int 0)))) (sSet 3 (c1 gNeg (cV 3))) sNil)
    (sSeq (sSet 4 (cA gList aN))
    (sSeq (sIf (cB (c2 gGe (cV 3) (c2 gPow (cC (.int 10)) (cC (.int 18))))) (sSeq (sSet 3 (c2 gSub (cV 3) (c2 gPow (cC (.int 10)) (cC (.int 18)))))
    (sSeq (sFor (.nm 5) (iL (cV 2)) L0__law_draw)
    (sRetV 4))) sNil)
    (sSeq (sSet 6 (c2 gMod (c2 gAdd (c2 gAdd (cV 3) (cC (.int 1))) (c2 gMul (cC (.int 31)) (cV 1))) (cC (.int 2147483647))))
    (sSeq (sFor (.nm 7) (iR gR1 (aC (cA gLen (aC (cV 2) aN)) aN)) L1__law_draw)
    (sRetV 4)))))))
noncomputable def F__law_draw : List RV → Rs RV := fnD 8 B__law_draw
noncomputable def L0__law_rows : VEnv → Out :=
  (sApp 3 (cA gTupl (aC (c2 gIx (cC (.str "+-*")) (c2 gMod (cV 4) (cC (.int 3)))) (aC (c2 gAdd (cC (.str "x")) (cA gStr (aC (c2 gSub (cV 1) (cC (.int 1))) aN))) (aC (cA gStr (aC (c2 gAdd (cV 2) (cV 4)) aN)) aN)))))
noncomputable def B__law_rows : VEnv → Out :=
  (sSeq (sSet 3 (cA gList aN))
    (sSeq (sFor (.nm 4) (iR gR1 (aC (cV 0) aN)) L0__law_rows)
    (sRet (cA gTupl (aC (cC (.int 97)) (aC (cV 1) (aC (cA gTupleC (aC (cV 3) aN)) (aC (cA gTupl (aC (c2 gSub (cV 0) (cC (.int 1))) aN)) aN))))))))
noncomputable def F__law_rows : List RV → Rs RV := fnD 5 B__law_rows
noncomputable def L0_is_possible : VEnv → Out :=
  (sIf (cB (c2 gNotIn (cV 3) (cV 1))) (sRet (cC (.bool false))) sNil)
noncomputable def B_is_possible : VEnv → Out :=
  (sSeq (sFor (.nm 3) (iA (c2 gIx (c2 gIx (cV 0) (cC (.int 0))) (cV 2))) L0_is_possible)
    (sRet (cC (.bool true))))
noncomputable def F_is_possible : List RV → Rs RV := fnD 4 B_is_possible
noncomputable def B_moved : VEnv → Out :=
  (sSeq (sIf (cB (c2 gIn (cV 1) (cV 0))) (sRet (cA gTupleC (aC (cLc (iAb (cV 0)) [2] (.nm 2) (cB (c2 gNe (cV 2) (cV 1))) (cV 2)) aN))) sNil)
    (sRet (cA gTupleC (aC (cA gSorted (aC (c2 gAdd (cA gListC (aC (cV 0) aN)) (cA gList (aC (cV 1) aN))) aN)) aN))))
noncomputable def F_moved : List RV → Rs RV := fnD 3 B_moved
noncomputable def L0_walk : VEnv → Out :=
  (sSeq (sIf (bNot (cB (cA (fun rs => if rs.length = 3 then F_is_possible (rs.map RV.arg) else .no) (aC (cV 0) (aC (c2 gIx (cV 3) (c1 gNeg (cC (.int 1)))) (aC (c2 gIx (cV 1) (cV 4)) aN)))))) (sRaise 1 2 [("place", 1), ("what", 0)] (aC (cC (.str "not possible")) (aC (cV 4) aN))) sNil)
    (sApp 3 (cA (fun rs => if rs.length = 2 then F_moved (rs.map RV.arg) else .no) (aC (c2 gIx (cV 3) (c1 gNeg (cC (.int 1)))) (aC (c2 gIx (cV 1) (cV 4)) aN)))))
noncomputable def B_walk : VEnv → Out :=
  (sSeq (sSet 3 (cA gList (aC (cV 2) aN)))
    (sSeq (sFor (.nm 4) (iR gR1 (aC (cA gLen (aC (cV 1) aN)) aN)) L0_walk)
    (sRetV 3)))
noncomputable def F_walk : List RV → Rs RV := fnD 5 B_walk
noncomputable def L0_task_of : VEnv → Out :=
  (sSeq (sSet 5 (cLc (iT (cA gTupl (aC (cV 3) (aC (cV 4) aN)))) [6] (.nm 6) (cB (c2 gEq (c2 gIx (cV 6) (cC (.int 0))) (cC (.str "s")))) (cA gInt (aC (cSl (cV 6) (oS (cC (.int 1))) oN) aN))))
    (sApp 1 (cA gTupleC (aC (c1 gSortSet (cV 5)) aN))))
noncomputable def B_task_of : VEnv → Out :=
  (sSeq (sSet 1 (cA gList aN))
    (sSeq (sFor (.tp [2, 3, 4]) (iA (c2 gIx (cV 0) (cC (.int 2)))) L0_task_of)
    (sRet (cA gTupl (aC (cA gTupleC (aC (cV 1) aN)) (aC (c2 gIx (cV 0) (cC (.int 3))) aN))))))
noncomputable def F_task_of : List RV → Rs RV := fnD 7 B_task_of
noncomputable def B_check_plan : VEnv → Out :=
  (sIf (cB (c2 gNe (c2 gIx (cA (fun rs => if rs.length = 2 then F_walk (rs.map RV.arg ++ [.tuple []].map RV.d) else .no) (aC (cA (fun rs => if rs.length = 1 then F_task_of (rs.map RV.arg) else .no) (aC (cV 0) aN)) (aC (cV 1) aN))) (c1 gNeg (cC (.int 1)))) (c2 gIx (cV 0) (cC (.int 3))))) (sRaise 1 2 [("place", 1), ("what", 0)] (aC (cC (.str "other targets")) (aC (c1 gNeg (cC (.int 1))) aN))) sNil)
noncomputable def F_check_plan : List RV → Rs RV := fnD 2 B_check_plan
noncomputable def L0_check_links : VEnv → Out :=
  (sIf (bAnd (cB (c2 gIsNot (c2 gIx (cV 2) (cV 3)) (cC .none))) (cB (c2 gNotIn (c2 gIx (cV 2) (cV 3)) (c2 gIx (cV 0) (cC (.int 3)))))) (sRaise 3 2 [("place", 1), ("what", 0)] (aC (cC (.str "wrong link")) (aC (cV 3) aN))) sNil)
noncomputable def B_check_links : VEnv → Out :=
  (sSeq (sIf (cB (c2 gNe (c2 gIx (cV 0) (cC (.int 0))) (c2 gIx (cV 1) (cC (.int 0))))) (sRaise 3 2 [("place", 1), ("what", 0)] (aC (cC (.str "other modulus")) (aC (c1 gNeg (cC (.int 1))) aN))) sNil)
    (sFor (.nm 3) (iR gR1 (aC (cA gLen (aC (cV 2) aN)) aN)) L0_check_links))
noncomputable def F_check_links : List RV → Rs RV := fnD 4 B_check_links
noncomputable def L0_input_names : VEnv → Out :=
  (sIf (cB (c2 gIs (cV 4) (cC .none))) (sSeq (sApp 2 (c2 gAdd (cC (.str "x")) (cA gStr (aC (cV 3) aN))))
    (sSet 3 (c2 gAdd (cV 3) (cC (.int 1))))) (sApp 2 (c2 gAdd (cC (.str "s")) (cA gStr (aC (cV 4) aN)))))
noncomputable def B_input_names : VEnv → Out :=
  (sSeq (sSet 2 (cA gList aN))
    (sSeq (sSet 3 (c2 gIx (cV 0) (cC (.int 1))))
    (sSeq (sFor (.nm 4) (iA (cV 1)) L0_input_names)
    (sRetV 2))))
noncomputable def F_input_names : List RV → Rs RV := fnD 5 B_input_names
noncomputable def B_led : VEnv → Out :=
  (sSeq (sIf (cB (c2 gEq (c2 gIx (cV 0) (cC (.int 0))) (cC (.str "x")))) (sRet (c2 gIx (cV 1) (cA gInt (aC (cSl (cV 0) (oS (cC (.int 1))) oN) aN)))) sNil)
    (sSeq (sIf (cB (c2 gEq (c2 gIx (cV 0) (cC (.int 0))) (cC (.str "s")))) (sRet (c2 gAdd (cC (.str "s")) (cA gStr (aC (c2 gIx (cV 2) (cA gInt (aC (cSl (cV 0) (oS (cC (.int 1))) oN) aN))) aN)))) sNil)
    (sRetV 0)))
noncomputable def F_led : List RV → Rs RV := fnD 3 B_led
noncomputable def L0_put_together : VEnv → Out :=
  (sSeq (sFz 3 (sSet 9 (cA gTupl (aC (cV 6) (aC (cA (fun rs => if rs.length = 3 then F_led (rs.map RV.arg) else .no) (aC (cV 7) (aC (cV 3) (aC (cV 5) aN)))) (aC (cA (fun rs => if rs.length = 3 then F_led (rs.map RV.arg) else .no) (aC (cV 8) (aC (cV 3) (aC (cV 5) aN)))) aN))))))
    (sSeq (sIf (cB (c2 gNotIn (cV 9) (cV 4))) (sApp 4 (cV 9)) sNil)
    (sApp 5 (cIdxL (cV 4) (cV 9)))))
noncomputable def B_put_together : VEnv → Out :=
  (sSeq (sSet 3 (cA (fun rs => if rs.length = 2 then F_input_names (rs.map RV.arg) else .no) (aC (cV 0) (aC (cV 2) aN))))
    (sSeq (sSet 4 (cA gListC (aC (c2 gIx (cV 0) (cC (.int 2))) aN)))
    (sSeq (sSet 5 (cA gList aN))
    (sSeq (sFor (.tp [6, 7, 8]) (iA (c2 gIx (cV 1) (cC (.int 2)))) L0_put_together)
    (sSeq (sSet 10 (c2 gAdd (c2 gIx (cV 0) (cC (.int 1))) (cA gLen (aC (cLc (iAb (cV 2)) [11] (.nm 11) (cB (c2 gIs (cV 11) (cC .none))) (cV 11)) aN))))
    (sFz 5 (sFz 4 (sFz 10 (sRet (cA gTupl (aC (cV 10) (aC (cV 4) (aC (cV 5) aN)))))))))))))
noncomputable def F_put_together : List RV → Rs RV := fnD 12 B_put_together
noncomputable def B_joined : VEnv → Out :=
  (sSeq (sDrop (cA (fun rs => if rs.length = 3 then F_check_links (rs.map RV.arg) else .no) (aC (cV 0) (aC (cV 1) (aC (cV 2) aN)))))
    (sSeq (sUnp (.tp [4, 5, 6]) (cA (fun rs => if rs.length = 3 then F_put_together (rs.map RV.arg) else .no) (aC (cV 0) (aC (cV 1) (aC (cV 2) aN)))))
    (sSeq (sIf (cB (c2 gGt (cV 4) (cC (.int 6)))) (sRaise 3 2 [("place", 1), ("what", 0)] (aC (cC (.str "too many inputs")) (aC (c1 gNeg (cC (.int 1))) aN))) sNil)
    (sSeq (sIf (cB (c2 gGt (cA gLen (aC (cV 5) aN)) (cC (.int 8)))) (sRaise 3 2 [("place", 1), ("what", 0)] (aC (cC (.str "too many steps")) (aC (c1 gNeg (cC (.int 1))) aN))) sNil)
    (sSeq (sSet 7 (cLc (iAb (c2 gIx (cV 1) (cC (.int 3)))) [9] (.nm 9) bYes (c2 gIx (cV 6) (cV 9))))
    (sSeq (sIf (cB (cV 3)) (sSet 7 (c2 gAdd (cV 7) (cA gListC (aC (c2 gIx (cV 0) (cC (.int 3))) aN)))) sNil)
    (sSeq (sSet 8 (cLc (iR gR1 (aC (cA gLen (aC (cV 5) aN)) aN)) [10] (.nm 10) (cB (c2 gIn (cV 10) (cV 7))) (cV 10)))
    (sRet (cA gTupl (aC (c2 gIx (cV 0) (cC (.int 0))) (aC (cV 4) (aC (cA gTupleC (aC (cV 5) aN)) (aC (cA gTupleC (aC (cV 8) aN)) aN)))))))))))))
noncomputable def F_joined : List RV → Rs RV := fnD 11 B_joined
noncomputable def B_joined_plan : VEnv → Out :=
  (sSeq (sDrop (cA (fun rs => if rs.length = 2 then F_check_plan (rs.map RV.arg) else .no) (aC (cV 0) (aC (cV 3) aN))))
    (sSeq (sDrop (cA (fun rs => if rs.length = 2 then F_check_plan (rs.map RV.arg) else .no) (aC (cV 1) (aC (cV 4) aN))))
    (sSeq (sSet 6 (cAK (fun rs zs => if rs.length = 3 ∧ zs.length = [("keep" : Str)].length then F_joined (rs.map RV.arg ++ (zs.map RV.arg ++ [].map RV.d)) else .no) (aC (cV 0) (aC (cV 1) (aC (cV 2) aN))) (aC (cV 5) aN)))
    (sSeq (sUnp (.tp [7, 8, 9]) (cA (fun rs => if rs.length = 3 then F_put_together (rs.map RV.arg) else .no) (aC (cV 0) (aC (cV 1) (aC (cV 2) aN)))))
    (sSeq (sIf (cB (c2 gNe (cA gLen (aC (cV 8) aN)) (c2 gAdd (cA gLen (aC (c2 gIx (cV 0) (cC (.int 2))) aN)) (cA gLen (aC (c2 gIx (cV 1) (cC (.int 2))) aN))))) (sRaise 3 2 [("place", 1), ("what", 0)] (aC (cC (.str "shared steps")) (aC (c1 gNeg (cC (.int 1))) aN))) sNil)
    (sSeq (sSet 10 (c2 gAdd (cA gListC (aC (cV 3) aN)) (cLc (iAb (cV 4)) [11] (.nm 11) bYes (c2 gIx (cV 9) (cV 11)))))
    (sSeq (sIf (bNot (cB (cV 5))) (sSet 10 (c2 gAdd (cV 10) (c1 gRev (cV 3)))) sNil)
    (sSeq (sIf (cB (c2 gGt (cA gLen (aC (cV 10) aN)) (cC (.int 255)))) (sRaise 3 2 [("place", 1), ("what", 0)] (aC (cC (.str "too many moves")) (aC (c1 gNeg (cC (.int 1))) aN))) sNil)
    (sRetV 10)))))))))
noncomputable def F_joined_plan : List RV → Rs RV := fnD 12 B_joined_plan
noncomputable def Y0__law_told : VEnv → Out :=
  (sSeq (sIf (cB (c2 gEq (cV 0) (cC (.int 0)))) (sRet (cAK (fun rs zs => if rs.length = 3 ∧ zs.length = [("keep" : Str)].length then F_joined (rs.map RV.arg ++ (zs.map RV.arg ++ [].map RV.d)) else .no) (aC (cV 1) (aC (cV 2) (aC (cV 3) aN))) (aC (cV 5) aN))) sNil)
    (sRet (cAK (fun rs zs => if rs.length = 5 ∧ zs.length = [("keep" : Str)].length then F_joined_plan (rs.map RV.arg ++ (zs.map RV.arg ++ [].map RV.d)) else .no) (aC (cV 1) (aC (cV 2) (aC (cV 3) (aC (c2 gIx (cV 4) (cC (.int 0))) (aC (c2 gIx (cV 4) (cC (.int 1))) aN))))) (aC (cV 5) aN))))
noncomputable def Z0__law_told : Addr → Addr → Nat → VEnv → Out := fun a dd c =>
  (sSeq (sIf (bOr (bNot (cB (cIsE a dd c tk_JoinError 6))) (bOr (cB (cIsE a dd c tk_PlanError 6)) (cB (cIsE a dd c tk_CodeError 6)))) (sRet (cC .none)) sNil)
    (sRet (cA gTupl (aC (cXf a dd c cs_what 6 "what") (aC (cXf a dd c cs_place 6 "place") aN)))))
noncomputable def B__law_told : VEnv → Out :=
  (sTry mt_TidyError 6 Y0__law_told Z0__law_told)
noncomputable def F__law_told : List RV → Rs RV := fnD 7 B__law_told
noncomputable def L0_law : VEnv → Out :=
  (sSeq (sSet 2 (cA (fun rs => if rs.length = 3 then F__law_draw (rs.map RV.arg) else .no) (aC (cV 0) (aC (c2 gMul (cC (.int 3)) (cV 1)) (aC (cA gList (aC (cC (.int 8)) (aC (cC (.int 6)) (aC (cC (.int 8)) (aC (cC (.int 6)) (aC (cC (.int 3)) (aC (cC (.int 2)) (aC (cC (.int 65)) (aC (cC (.int 65)) aN))))))))) aN)))))
    (sSeq (sSet 3 (cA (fun rs => if rs.length = 3 then F__law_rows (rs.map RV.arg) else .no) (aC (c2 gAdd (cC (.int 1)) (c2 gIx (cV 2) (cC (.int 0)))) (aC (c2 gAdd (cC (.int 1)) (c2 gIx (cV 2) (cC (.int 1)))) (aC (cC (.int 3)) aN)))))
    (sSeq (sSet 4 (cA (fun rs => if rs.length = 3 then F__law_rows (rs.map RV.arg) else .no) (aC (c2 gAdd (cC (.int 1)) (c2 gIx (cV 2) (cC (.int 2)))) (aC (c2 gAdd (cC (.int 1)) (c2 gIx (cV 2) (cC (.int 3)))) (aC (cC (.int 40)) aN)))))
    (sSeq (sSet 5 (c2 gRep (cA gList (aC (cC .none) aN)) (c2 gIx (cV 4) (cC (.int 1)))))
    (sSeq (sIf (cB (c2 gEq (c2 gIx (cV 2) (cC (.int 4))) (cC (.int 0)))) (sStore 5 (cC (.int 0)) (c2 gIx (cV 2) (cC (.int 0)))) sNil)
    (sSeq (sSet 6 (c2 gEq (c2 gIx (cV 2) (cC (.int 5))) (cC (.int 1))))
    (sSeq (sSet 7 (c2 gAdd (c2 gIx (cV 3) (cC (.int 1))) (cA gLen (aC (cLc (iAb (cV 5)) [13] (.nm 13) (cB (c2 gIs (cV 13) (cC .none))) (cV 13)) aN))))
    (sSeq (sSet 8 (cC .none))
    (sSeq (sIf (cB (c2 gGt (cV 7) (cC (.int 6)))) (sSet 8 (cA gTupl (aC (cC (.str "too many inputs")) (aC (c1 gNeg (cC (.int 1))) aN)))) (sIf (cB (c2 gGt (c2 gAdd (cA gLen (aC (c2 gIx (cV 3) (cC (.int 2))) aN)) (cA gLen (aC (c2 gIx (cV 4) (cC (.int 2))) aN))) (cC (.int 8)))) (sSet 8 (cA gTupl (aC (cC (.str "too many steps")) (aC (c1 gNeg (cC (.int 1))) aN)))) sNil))
    (sSeq (sFz 4 (sFz 3 (sSet 9 (cA (fun rs => if rs.length = 6 then F__law_told (rs.map RV.arg) else .no) (aC (cC (.int 0)) (aC (cV 3) (aC (cV 4) (aC (cA gTupleC (aC (cV 5) aN)) (aC (cA gList aN) (aC (cV 6) aN))))))))))
    (sSeq (sIf (cB (c2 gIsNot (cV 8) (cC .none))) (sIf (cB (c2 gNe (cV 9) (cV 8))) (sRet (cC (.bool false))) sNil) (sFz 7 (sIf (bOr (bNot (cB (c1 (gIsi "tuple") (cV 9)))) (bOr (cB (c2 gNe (cSl (cV 9) oN (oS (cC (.int 2)))) (cA gTupl (aC (cC (.int 97)) (aC (cV 7) aN))))) (cB (c2 gNe (cA gLen (aC (c2 gIx (cV 9) (cC (.int 2))) aN)) (c2 gAdd (cA gLen (aC (c2 gIx (cV 3) (cC (.int 2))) aN)) (cA gLen (aC (c2 gIx (cV 4) (cC (.int 2))) aN))))))) (sRet (cC (.bool false))) sNil)))
    (sSeq (sSet 10 (cA gList (aC (c2 gRep (cA gList (aC (c2 gIx (cV 2) (cC (.int 0))) aN)) (c2 gAdd (cC (.int 1)) (c2 gMul (cC (.int 2)) (c2 gIx (cV 2) (cC (.int 6)))))) (aC (c2 gRep (cA gList (aC (c2 gIx (cV 2) (cC (.int 2))) aN)) (c2 gAdd (cC (.int 1)) (c2 gMul (cC (.int 2)) (c2 gIx (cV 2) (cC (.int 7)))))) aN))))
    (sSeq (sSet 11 (c2 gAdd (c2 gIx (cV 10) (cC (.int 0))) (c2 gRep (cA gList (aC (c2 gAdd (cA gLen (aC (c2 gIx (cV 3) (cC (.int 2))) aN)) (c2 gIx (cV 2) (cC (.int 2)))) aN)) (cA gLen (aC (c2 gIx (cV 10) (cC (.int 1))) aN)))))
    (sSeq (sIf (bNot (cB (cV 6))) (sSet 11 (c2 gAdd (cV 11) (c2 gIx (cV 10) (cC (.int 0))))) sNil)
    (sSeq (sFz 11 (sSet 12 (cV 11)))
    (sSeq (sIf (cB (c2 gGt (cA gLen (aC (cV 11) aN)) (cC (.int 255)))) (sSet 12 (cA gTupl (aC (cC (.str "too many moves")) (aC (c1 gNeg (cC (.int 1))) aN)))) sNil)
    (sSeq (sIf (cB (c2 gIsNot (cV 8) (cC .none))) (sSet 12 (cV 8)) sNil)
    (sFz 10 (sFz 4 (sFz 3 (sIf (cB (c2 gNe (cA (fun rs => if rs.length = 6 then F__law_told (rs.map RV.arg) else .no) (aC (cC (.int 1)) (aC (cV 3) (aC (cV 4) (aC (cA gTupleC (aC (cV 5) aN)) (aC (cV 10) (aC (cV 6) aN))))))) (cV 12))) (sRet (cC (.bool false))) sNil)))))))))))))))))))))
noncomputable def B_law : VEnv → Out :=
  (sSeq (sFor (.nm 1) (iR gR1 (aC (cA gMin2 (aC (cC (.int 4)) (aC (cA gMax2 (aC (cC (.int 1)) (aC (c2 gDiv (cA gLen (aC (cV 0) aN)) (cC (.int 3))) aN))) aN))) aN)) L0_law)
    (sRet (cC (.bool true))))
noncomputable def F_law : List RV → Rs RV := fnD 14 B_law
/-! ### cells and draws -/
def cell (ns : List Int) (k : Nat) : Int := ns.getD k 0
theorem cell_ok (ns : List Int) (k : Nat) : F__law_cell [.sc ns, .d (.int k)] = .ok (.d (.int (cell ns k))) := by
  unfold F__law_cell fnD B__law_cell
  simp [e_V]
  by_cases h : k < ns.length
  · simp [h, atI_lt, cell]
  · simp [h, cell]
/-- what the digits of a draw satisfy -/
structure Drawn (sizes ds : List Int) : Prop where
  len : ds.length = sizes.length
  lo : ∀ i (h : i < ds.length), 0 ≤ ds[i]
  hi : ∀ i (h : i < ds.length) (h' : i < sizes.length), ds[i] < sizes[i]
theorem Drawn.snoc {sizes ds : List Int} {s d : Int} (h : Drawn sizes ds) (h0 : 0 ≤ d) (h1 : d < s) : Drawn (sizes ++ [s]) (ds ++ [d]) := by
  refine ⟨by simp [h.len], fun i hi => ?_, fun i hi hi' => ?_⟩
  · by_cases c : i < ds.length
    · rw [List.getElem_append_left c]; exact h.lo i c
    · rw [List.getElem_append_right (by omega)]; simpa using h0
  · by_cases c : i < ds.length
    · rw [List.getElem_append_left c, List.getElem_append_left (by rw [← h.len]; exact c)]; exact h.hi i c _
    · rw [List.getElem_append_right (by omega), List.getElem_append_right (by rw [← h.len]; omega)]; simpa using h1
def Sizes (sizes : List Int) : Prop := ∀ s ∈ sizes, 0 < s ∧ s < 1073741824
/-- the loop of the first way -/
theorem draw_far (sizes : List Int) (hs : Sizes sizes) (a b : RV) (k : PyData) : ∀ (xs pre ds : List Int) (c : Int) (j5 j6 j7 : Option RV), pre ++ xs = sizes → Drawn pre ds → sizes.length ≤ 1000 → 0 ≤ c →
    ∃ (ds' : List Int) (c' : Int) (j5' : Option RV), loopF (.nm 5) (sSeq (sApp 4 (c2 gMod (cV 3) (cV 5))) (sSet 3 (c2 gDiv (cV 3) (cV 5)))) (xs.map .int) [some a, some b, some (.d k), some (.d (.int c)), some (.ol (ds.map .int)), j5, j6, j7] = .nx [some a, some b, some (.d k), some (.d (.int c')), some (.ol (ds'.map .int)), j5', j6, j7] ∧ Drawn sizes ds'
  | [], pre, ds, c, j5, j6, j7, e, h, hl, h0 => ⟨ds, c, j5, rfl, by rw [← e, List.append_nil]; exact h⟩
  | x :: xs, pre, ds, c, j5, j6, j7, e, h, hl, h0 => by
    have hx0 : 0 < x ∧ x < 1073741824 := hs x (by rw [← e]; simp)
    have hx : 0 < x ∧ x.natAbs < 1073741824 := by omega
    have hlen : ds.length ≤ 1000000 := by
      have : pre.length ≤ sizes.length := by (rw [← e]; simp)
      rw [h.len]; omega
    obtain ⟨ds', c', j5', e1, d1⟩ := draw_far sizes hs a b k xs (pre ++ [x]) (ds ++ [c % x]) (c / x) (some (.d (.int x))) j6 j7 (by rw [← e]; simp) (h.snoc (Int.emod_nonneg c (by omega)) (Int.emod_lt_of_pos c hx.1)) hl (Int.ediv_nonneg h0 (by omega))
    refine ⟨ds', c', j5', ?_, d1⟩
    rw [List.map_cons, loopF_cons]
    simp [e_app, e_V, hx, hlen]
    simpa using e1
/-- the loop of the second way -/
theorem draw_near (sizes : List Int) (hs : Sizes sizes) (a b : RV) (j3 j5 : Option RV) : ∀ (n i : Nat) (ds : List Int) (m : Int) (j7 : Option RV), i + n = sizes.length → Drawn (sizes.take i) ds → sizes.length ≤ 1000 → 0 ≤ m → m < 2147483647 →
    ∃ (ds' : List Int) (m' : Int) (j7' : Option RV), loopF (.nm 7) (sSeq (sSet 6 (c2 gMod (c2 gAdd (c2 gAdd (c2 gMul (cV 6) (cC (.int 48271))) (cC (.int 11))) (cV 7)) (cC (.int 2147483647))))
    (sSeq (sSet 6 (c2 gMod (c2 gAdd (c2 gMul (cV 6) (cC (.int 69621))) (cC (.int 3))) (cC (.int 2147483647))))
    (sApp 4 (c2 gMod (c2 gDiv (cV 6) (cC (.int 7))) (c2 gIx (cV 2) (cV 7)))))) ((List.range' i n).map fun k : Nat => .int (k : Int)) [some a, some b, some (.d (.list (sizes.map .int))), j3, some (.ol (ds.map .int)), j5, some (.d (.int m)), j7] = .nx [some a, some b, some (.d (.list (sizes.map .int))), j3, some (.ol (ds'.map .int)), j5, some (.d (.int m')), j7'] ∧ Drawn sizes ds'
  | 0, i, ds, m, j7, e, h, hl, h0, h1 => ⟨ds, m, j7, rfl, by rw [Nat.add_zero] at e; rw [e, List.take_length] at h; exact h⟩
  | n + 1, i, ds, m, j7, e, h, hl, h0, h1 => by
    have hi : i < sizes.length := by omega
    have hx : 0 < sizes[i] ∧ sizes[i] < 1073741824 := hs _ (List.getElem_mem hi)
    have hlen : ds.length ≤ 1000000 := by rw [h.len, List.length_take]; omega
    have q1 : 0 ≤ ((m * 48271 + 11 + (i : Int)) % 2147483647 * 69621 + 3) % 2147483647 := Int.emod_nonneg _ (by decide)
    have q2 : ((m * 48271 + 11 + (i : Int)) % 2147483647 * 69621 + 3) % 2147483647 < 2147483647 := Int.emod_lt_of_pos _ (by decide)
    have q3 : 0 ≤ (m * 48271 + 11 + (i : Int)) % 2147483647 := Int.emod_nonneg _ (by decide)
    have q4 : (m * 48271 + 11 + (i : Int)) % 2147483647 < 2147483647 := Int.emod_lt_of_pos _ (by decide)
    have et : sizes.take (i + 1) = sizes.take i ++ [sizes[i]] := by rw [List.take_add_one, List.getElem?_eq_getElem hi]; rfl
    obtain ⟨ds', m', j7', e1, d1⟩ := draw_near sizes hs a b j3 j5 n (i + 1) (ds ++ [((m * 48271 + 11 + (i : Int)) % 2147483647 * 69621 + 3) % 2147483647 / 7 % sizes[i]]) (((m * 48271 + 11 + (i : Int)) % 2147483647 * 69621 + 3) % 2147483647) (some (.d (.int i))) (by omega)
      (by rw [et]; exact h.snoc (Int.emod_nonneg _ (by omega)) (Int.emod_lt_of_pos _ hx.1)) hl q1 q2
    refine ⟨ds', m', j7', ?_, d1⟩
    rw [List.range'_succ, List.map_cons, loopF_cons]
    have b1 : m.natAbs < 18446744073709551616 := by omega
    have b2 : ((m * 48271 + 11 + (i : Int)) % 2147483647).natAbs < 18446744073709551616 := by omega
    have ea : atI (sizes.map PyData.int) (i : Int) = some (.int sizes[i]) := by rw [atI_lt (by omega) (by simpa using hi)]; simp [hi]
    simp [e_app, e_V, hlen, ea, hx, b1, b2]
    simpa using e1
/-- what follows the cell -/
def drawTail : VEnv → Out := (sSeq (sSet 4 (cA gList aN))
    (sSeq (sIf (cB (c2 gGe (cV 3) (c2 gPow (cC (.int 10)) (cC (.int 18))))) (sSeq (sSet 3 (c2 gSub (cV 3) (c2 gPow (cC (.int 10)) (cC (.int 18)))))
    (sSeq (sFor (.nm 5) (iL (cV 2)) (sSeq (sApp 4 (c2 gMod (cV 3) (cV 5)))
    (sSet 3 (c2 gDiv (cV 3) (cV 5)))))
    (sRetV 4))) sNil)
    (sSeq (sSet 6 (c2 gMod (c2 gAdd (c2 gAdd (cV 3) (cC (.int 1))) (c2 gMul (cC (.int 31)) (cV 1))) (cC (.int 2147483647))))
    (sSeq (sFor (.nm 7) (iR gR1 (aC (cA gLen (aC (cV 2) aN)) aN)) (sSeq (sSet 6 (c2 gMod (c2 gAdd (c2 gAdd (c2 gMul (cV 6) (cC (.int 48271))) (cC (.int 11))) (cV 7)) (cC (.int 2147483647))))
    (sSeq (sSet 6 (c2 gMod (c2 gAdd (c2 gMul (cV 6) (cC (.int 69621))) (cC (.int 3))) (cC (.int 2147483647))))
    (sApp 4 (c2 gMod (c2 gDiv (cV 6) (cC (.int 7))) (c2 gIx (cV 2) (cV 7)))))))
    (sRetV 4)))))
theorem draw_far' (ns : List Int) (k : Nat) (sizes : List Int) (hs : Sizes sizes) (hl : sizes.length ≤ 1000) (c : Int) (hf : 1000000000000000000 ≤ c) :
    ∃ ds : List Int, drawTail [some (.sc ns), some (.d (.int k)), some (.d (.list (sizes.map .int))), some (.d (.int c)), none, none, none, none] = .rt (.ol (ds.map .int)) ∧ Drawn sizes ds := by
  obtain ⟨ds', c', j5', e1, d1⟩ := draw_far sizes hs (.sc ns) (.d (.int k)) (.list (sizes.map .int)) sizes [] [] (c - 1000000000000000000) none none none (by simp) ⟨rfl, fun i h => by simp at h, fun i h => by simp at h⟩ hl (by omega)
  refine ⟨ds', ?_, d1⟩
  simp at e1
  unfold drawTail
  simp [e_V, hf, e1, e_retV]
theorem mix_ok (ns : List Int) (k : Nat) (sizes : List Int) (c : Int) : sSet 6 (c2 gMod (c2 gAdd (c2 gAdd (cV 3) (cC (.int 1))) (c2 gMul (cC (.int 31)) (cV 1))) (cC (.int 2147483647))) [some (.sc ns), some (.d (.int k)), some (.d (.list (sizes.map .int))), some (.d (.int c)), some (.ol []), none, none, none]
      = .nx [some (.sc ns), some (.d (.int k)), some (.d (.list (sizes.map .int))), some (.d (.int c)), some (.ol []), none, some (.d (.int ((c + 1 + 31 * (k : Int)) % 2147483647))), none] := by
  simp only [e_set, e_c2, e_V, List.getElem?_cons_zero, List.getElem?_cons_succ, Rs.bind_ok, e_bor1, e_cC, e_addI]
  rw [e_mul, if_pos (Or.inl (by decide))]
  simp only [Rs.bind_ok, e_addI]
  rw [e_mod, if_pos (by decide)]
  simp only [Rs.out_ok, e_putd]
  rw [if_pos (by show 6 < 8; decide)]
  rfl
theorem draw_near' (ns : List Int) (k : Nat) (sizes : List Int) (hs : Sizes sizes) (hl : sizes.length ≤ 1000) (c : Int) (hf : ¬ 1000000000000000000 ≤ c) :
    ∃ ds : List Int, drawTail [some (.sc ns), some (.d (.int k)), some (.d (.list (sizes.map .int))), some (.d (.int c)), none, none, none, none] = .rt (.ol (ds.map .int)) ∧ Drawn sizes ds := by
  obtain ⟨m, hm⟩ : ∃ m, m = (c + 1 + 31 * (k : Int)) % 2147483647 := ⟨_, rfl⟩
  have m0 : 0 ≤ m := by rw [hm]; exact Int.emod_nonneg _ (by decide)
  have m1 : m < 2147483647 := by rw [hm]; exact Int.emod_lt_of_pos _ (by decide)
  have hset := mix_ok ns k sizes c
  rw [← hm] at hset
  clear hm
  obtain ⟨ds', m', j7', e1, d1⟩ := draw_near sizes hs (.sc ns) (.d (.int k)) (some (.d (.int c))) none sizes.length 0 [] m none (by omega) ⟨rfl, fun i h => by simp at h, fun i h => by simp at h⟩ hl m0 m1
  refine ⟨ds', ?_, d1⟩
  rw [← List.range_eq_range', ← rngL_eq] at e1
  have hr : iR gR1 (aC (cA gLen (aC (cV 2) aN)) aN) [some (.sc ns), some (.d (.int k)), some (.d (.list (sizes.map .int))), some (.d (.int c)), some (.ol []), none, some (.d (.int m)), none] = .ok (rngL 0 sizes.length) := by
    have b1 : (sizes.map PyData.int).length ≤ 1000000 := by rw [List.length_map]; omega
    have := e_R1n b1
    rw [List.length_map] at this
    simp only [e_iR, e_aC, e_cA, e_aN, e_V, List.getElem?_cons_succ, List.getElem?_cons_zero, Rs.bind_ok, e_bor1, e_lenL, List.length_map]
    exact this
  have hc : cB (c2 gGe (cV 3) (c2 gPow (cC (.int 10)) (cC (.int 18)))) [some (.sc ns), some (.d (.int k)), some (.d (.list (sizes.map .int))), some (.d (.int c)), some (.ol []), none, none, none] = .ok false := by
    simp [e_V, hf]
  have h4 : sSet 4 (cA gList aN) [some (.sc ns), some (.d (.int k)), some (.d (.list (sizes.map .int))), some (.d (.int c)), none, none, none, none] = .nx [some (.sc ns), some (.d (.int k)), some (.d (.list (sizes.map .int))), some (.d (.int c)), some (.ol []), none, none, none] := by simp
  unfold drawTail
  rw [e_seq, h4, Out.then_nx, e_seq, e_if, hc]
  simp only [Rs.out_ok, Bool.false_eq_true, if_false, e_nil, Out.then_nx]
  rw [e_seq, hset, Out.then_nx, e_seq, e_for, hr]
  simp only [Rs.out_ok]
  rw [show ([] : List PyData) = ([] : List Int).map .int from rfl, e1]
  simp [e_retV]
theorem draw_ok (ns : List Int) (k : Nat) (sizes : List Int) (hs : Sizes sizes) (hl : sizes.length ≤ 1000) : ∃ ds : List Int, F__law_draw [.sc ns, .d (.int k), .d (.list (sizes.map .int))] = .ok (.ol (ds.map .int)) ∧ Drawn sizes ds := by
  have eb : B__law_draw = sSeq (sSet 3 (cA (fun rs => if rs.length = 2 then F__law_cell (rs.map RV.arg) else .no) (aC (cV 0) (aC (cV 1) aN))))
    (sSeq (sIf (cB (c2 gLt (cV 3) (cC (.int 0)))) (sSet 3 (c1 gNeg (cV 3))) sNil) drawTail) := rfl
  unfold F__law_draw fnD
  rw [eb]
  have hc := cell_ok ns k
  generalize cell ns k = c at hc
  have step : ∀ c : Int, ∃ ds : List Int, drawTail [some (.sc ns), some (.d (.int k)), some (.d (.list (sizes.map .int))), some (.d (.int c)), none, none, none, none] = .rt (.ol (ds.map .int)) ∧ Drawn sizes ds := fun c => by
    by_cases hf : (1000000000000000000 : Int) ≤ c
    · exact draw_far' ns k sizes hs hl c hf
    · exact draw_near' ns k sizes hs hl c hf
  simp [e_V, hc]
  by_cases hn : c < 0
  · obtain ⟨ds, e1, d1⟩ := step (-c)
    refine ⟨ds, ?_, d1⟩
    simp [hn, e_V, e1]
  · obtain ⟨ds, e1, d1⟩ := step c
    refine ⟨ds, ?_, d1⟩
    simp [hn, e_V, e1]
/-! ### drawn tasks -/
theorem loopF_ex {β : Type} {tg : Tg} {f : VEnv → Out} (R : Nat → VEnv → Prop) (emb : β → PyData) (xs : List β) (env : VEnv)
    (h : ∀ i env x, xs[i]? = some x → R i env → ∃ e1, tgE tg (emb x) env = some e1 ∧ ∃ env', (f e1 = .nx env' ∨ f e1 = .ct env') ∧ R (i + 1) env') (h0 : R 0 env) : ∃ env', loopF tg f (xs.map emb) env = .nx env' ∧ R xs.length env' := by
  obtain ⟨env', e, r⟩ := loopF_rel (α := Unit) (fun i _ env => R i env) emb (fun _ _ => ()) xs () env (fun i _ env x hx r => h i env x hx r) h0
  exact ⟨env', e, r⟩
def natI (k : Nat) : PyData := .int (k : Int)
theorem rng_nat (n : Nat) : rngL 0 n = (List.range n).map natI := rngL_eq n
/-- ascending, from 0 to below b -/
structure Asc (b : Int) (xs : List Int) : Prop where
  up : xs.Pairwise (· < ·)
  lo : ∀ x ∈ xs, 0 ≤ x
  hi : ∀ x ∈ xs, x < b
theorem Asc.nil (b : Int) : Asc b [] := ⟨.nil, by simp, by simp⟩
theorem Asc.snoc {b x : Int} {xs : List Int} (h : Asc x xs) (h0 : 0 ≤ x) (h1 : x < b) : Asc b (xs ++ [x]) :=
  ⟨List.pairwise_append.mpr ⟨h.up, List.pairwise_singleton _ _, fun y hy z hz => by rw [List.mem_singleton.mp hz]; exact h.hi y hy⟩,
    fun y hy => by rcases List.mem_append.mp hy with z | z; exact h.lo y z; rw [List.mem_singleton.mp z]; exact h0,
    fun y hy => by rcases List.mem_append.mp hy with z | z; (have := h.hi y z; omega); rw [List.mem_singleton.mp z]; exact h1⟩
theorem Asc.mono {b c : Int} {xs : List Int} (h : Asc b xs) (e : b ≤ c) : Asc c xs := ⟨h.up, h.lo, fun x hx => Int.lt_of_lt_of_le (h.hi x hx) e⟩
theorem Asc.len {b : Nat} : ∀ {xs : List Int}, Asc b xs → xs.length ≤ b := by
  induction b with
  | zero => intro xs h; cases xs with
    | nil => simp
    | cons x xs => have := h.lo x List.mem_cons_self; have := h.hi x List.mem_cons_self; omega
  | succ b ih =>
    intro xs h
    rcases List.eq_nil_or_concat xs with rfl | ⟨ys, y, rfl⟩
    · simp
    · rw [List.concat_eq_append] at h ⊢
      have hu := List.pairwise_append.mp h.up
      have : Asc (b : Int) ys := ⟨hu.1, fun z hz => h.lo z (List.mem_append_left _ hz), fun z hz => by
        have h1 := hu.2.2 z hz y (List.mem_singleton.mpr rfl)
        have h2 := h.hi y (List.mem_append_right _ (List.mem_singleton.mpr rfl))
        omega⟩
      have := ih this
      simp
      omega
/-- a task: each step uses ascending earlier steps; ascending targets, at least one -/
structure WF (most : Nat) (us : List (List Int)) (ts : List Int) : Prop where
  one : 1 ≤ us.length
  len : us.length ≤ most
  use : ∀ (k : Nat) (u : List Int), us[k]? = some u → Asc k u
  tgt : Asc us.length ts
  some : ts ≠ []
theorem drawn_at {sizes ds : List Int} (h : Drawn sizes ds) {i : Nat} {s : Int} (hi : sizes[i]? = some s) : ∃ d, ds[i]? = some d ∧ 0 ≤ d ∧ d < s := by
  obtain ⟨h1, h2⟩ := List.getElem?_eq_some_iff.mp hi
  have h3 : i < ds.length := by rw [h.len]; exact h1
  exact ⟨ds[i], List.getElem?_eq_getElem h3, h.lo i h3, by rw [← h2]; exact h.hi i h3 h1⟩
theorem atI_ints {ds : List Int} {i : Nat} {d : Int} (h : ds[i]? = some d) : atI (ds.map PyData.int) (i : Int) = some (.int d) := by
  rw [atI_lt (by omega) (by simpa using (List.getElem?_eq_some_iff.mp h).1)]
  simp [h]
theorem range_at {n i x : Nat} (h : (List.range n)[i]? = some x) : x = i ∧ i < n := by
  have hi : i < n := by simpa using (List.getElem?_eq_some_iff.mp h).1
  rw [List.getElem?_range hi] at h
  exact ⟨(Option.some.inj h).symm, hi⟩
/-! ### draws as naturals -/
theorem draw_nat (ns : List Int) (k : Nat) (sz : List Nat) (hs : ∀ s ∈ sz, 0 < s ∧ s < 1000000) (hl : sz.length ≤ 1000) : ∃ nd : List Nat, F__law_draw [.sc ns, .d (.int k), .d (.list (sz.map natI))] = .ok (.ol (nd.map natI)) ∧ nd.length = sz.length ∧ ∀ (i s : Nat), sz[i]? = some s → ∃ d, nd[i]? = some d ∧ d < s := by
  obtain ⟨ds, e, dr⟩ := draw_ok ns k (sz.map fun n : Nat => (n : Int)) (by
    intro s hs'
    obtain ⟨n, hn, rfl⟩ := List.mem_map.mp hs'
    have := hs n hn
    omega) (by simpa using hl)
  have el : ds.length = sz.length := by have := dr.len; simpa using this
  have eds : ds = (ds.map Int.toNat).map fun n : Nat => (n : Int) := by
    rw [List.map_map]
    refine (List.map_id _).symm.trans (List.map_congr_left fun x hx => ?_)
    obtain ⟨i, hi, rfl⟩ := List.getElem_of_mem hx
    have := dr.lo i hi
    show ds[i] = ((ds[i].toNat : Nat) : Int)
    omega
  have m1 : (sz.map fun n : Nat => (n : Int)).map PyData.int = sz.map natI := by rw [List.map_map]; rfl
  have m2 : ds.map PyData.int = (ds.map Int.toNat).map natI := by
    conv => lhs; rw [eds]
    rw [List.map_map]; rfl
  rw [m1, m2] at e
  refine ⟨ds.map Int.toNat, e, by simpa using el, fun i s hi => ?_⟩
  obtain ⟨d, q1, q2, q3⟩ := drawn_at dr (i := i) (s := (s : Int)) (by rw [List.getElem?_map, hi]; rfl)
  exact ⟨d.toNat, by rw [List.getElem?_map, q1]; rfl, by omega⟩
theorem atI_nats {ds : List Nat} {i d : Nat} (h : ds[i]? = some d) : atI (ds.map natI) (i : Int) = some (natI d) := by
  rw [atI_lt (by omega) (by simpa using (List.getElem?_eq_some_iff.mp h).1)]
  simp [h]
theorem e_modN (a n : Nat) (h : 0 < n) : gMod (.d (.int a)) (.d (.int n)) = .ok (.d (.int ((a % n : Nat) : Int))) := by
  rw [e_mod, if_pos (by omega)]
  rfl
/-! ### tasks as data -/
def encU (us : List (List Int)) : List PyData := us.map fun u => .tuple (u.map .int)
def encT (us : List (List Int)) (ts : List Int) : PyData := .tuple [.tuple (encU us), .tuple (ts.map .int)]
def usAt (us : List (List Int)) (o : Int) : List Int := us.getD o.toNat []
theorem encU_len (us : List (List Int)) : (encU us).length = us.length := by simp [encU]
theorem encU_at (us : List (List Int)) {o : Int} (h0 : 0 ≤ o) (h1 : o < us.length) : atI (encU us) o = some (.tuple ((usAt us o).map .int)) := by
  have h : o.toNat < us.length := by omega
  rw [atI_lt h0 (by simpa [encU] using h1)]
  simp [encU, h, usAt]
/-! ### texts: a letter and a number -/
def numS (n : Nat) : Str := Str.ofString (toString (n : Int))
def lx (c : Str) (n : Nat) : Str := c ++ numS n
theorem num_l (n : Nat) : (numS n).cps.toList = numL n := tl_num n
theorem num_len {n : Nat} (h : n < 100000) : (numS n).length ≤ 5 := by
  have e : (numS n).length = (numL n).length := by rw [← num_l n]; rfl
  rw [e]
  exact numL_len (by decide) (by simpa using h)
theorem log_ok (n : Nat) (h : n < 100000) : ((n : Int)).natAbs.log2 < 1920 := by
  have h1 : ((n : Int)).natAbs = n := rfl
  rw [h1]
  by_cases h0 : n = 0
  · subst h0; decide
  · exact (Nat.log2_lt h0).mpr (Nat.lt_of_lt_of_le h (by decide))
theorem str_ok {n : Nat} (h : n < 100000) : gStr [.d (.int n)] = .ok (.d (.str (numS n))) := if_pos (log_ok n h)
theorem int_ok {n : Nat} (h : n < 100000) : gInt [.d (.str (numS n))] = .ok (.d (.int n)) := by
  have e : PySem.intText? (numS n) = some (n : Int) := int_num (Nat.le_trans (numL_len (k := 5) (by decide) (by simpa using h)) (by decide))
  show (rsO (PySem.intText? (numS n))).bind _ = _
  rw [e]
  have := num_len h
  simp only [rsO_some, Rs.bind_ok]
  rw [if_pos (by omega)]
  rfl
theorem app_l (a b : Str) : (a ++ b).cps.toList = a.cps.toList ++ b.cps.toList := by
  show (a.cps ++ b.cps).toList = _
  simp
theorem str_ext {a b : Str} (h : a.cps.toList = b.cps.toList) : a = b := by
  cases a; cases b
  congr 1
  exact Array.toList_inj.mp h
/-- the letters -/
structure Letter (c : Str) (k : Nat) : Prop where
  l : c.cps.toList = [k]
theorem let_x : Letter "x" 120 := ⟨by decide +kernel⟩
theorem let_r : Letter "r" 114 := ⟨by decide +kernel⟩
theorem let_s : Letter "s" 115 := ⟨by decide +kernel⟩
theorem Letter.eq {c : Str} {k : Nat} (h : Letter c k) : c = ⟨#[k]⟩ := str_ext h.l
theorem Letter.len {c : Str} {k : Nat} (h : Letter c k) : c.length = 1 := by
  have : c.length = c.cps.toList.length := by show c.cps.size = _; simp
  rw [this, h.l]; rfl
theorem lx_l {c : Str} {k : Nat} (h : Letter c k) (n : Nat) : (lx c n).cps.toList = k :: numL n := by
  unfold lx
  rw [app_l, h.l, num_l]; rfl
theorem lx_len {c : Str} {k : Nat} (h : Letter c k) {n : Nat} (hn : n < 100000) : (lx c n).length ≤ 6 := by
  have e : (lx c n).length = (lx c n).cps.toList.length := by show (lx c n).cps.size = _; simp
  have := numL_len (n := n) (k := 5) (by decide) (by simpa using hn)
  rw [e, lx_l h]
  simp
  exact this
theorem lx_head {c : Str} {k : Nat} (h : Letter c k) {n : Nat} (hn : n < 100000) : gIx (.d (.str (lx c n))) (.d (.int 0)) = .ok (.d (.str c)) := by
  have := lx_len h hn
  rw [e_ixS, if_pos (by omega), lx_l h, atI_zero]
  rw [h.eq]; rfl
theorem num_head {n : Nat} (hn : n < 100000) : ∃ d, 48 ≤ d ∧ d ≤ 57 ∧ gIx (.d (.str (numS n))) (.d (.int 0)) = .ok (.d (.str ⟨#[d]⟩)) := by
  have h1 := num_len hn
  have h2 := numL_digits n
  have h3 := numL_ne n
  rw [e_ixS, if_pos (by omega), num_l]
  cases e : numL n with
  | nil => exact absurd e h3
  | cons d ds =>
    have := h2 d (by rw [e]; exact List.mem_cons_self)
    exact ⟨d, by omega, by omega, by rw [atI_zero]; rfl⟩
theorem one_ne {a b : Nat} (h : a ≠ b) : (⟨#[a]⟩ : Str) ≠ ⟨#[b]⟩ := fun e => h (by injection e with e; simpa using e)
theorem lx_tail {c : Str} {k : Nat} (h : Letter c k) {n : Nat} (hn : n < 100000) : gSl (.d (.str (lx c n))) (some 1) none = .ok (.d (.str (numS n))) := by
  have hl := lx_len h hn
  have e : (lx c n).length = (numL n).length + 1 := by
    have : (lx c n).length = (lx c n).cps.toList.length := by show (lx c n).cps.size = _; simp
    rw [this, lx_l h]; rfl
  show (if (lx c n).length ≤ 1000000 then Rs.ok (RV.d (.str (cutS (lx c n) (some 1) none))) else .no) = _
  rw [if_pos (by omega)]
  congr 3
  apply str_ext
  unfold cutS
  have e1 : HT.sIx (lx c n).length 0 (some 1) = 1 := by
    rw [show (1 : Int) = ((1 : Nat) : Int) from rfl, HT.sIx_nat]; omega
  rw [e1, HT.sIx_none, e, lx_l h, num_l]
  simp
@[simp] theorem eqv_str (a b : Str) : PyData.eqv (.str a) (.str b) = decide (a = b) := by
  rw [PyData.eqv]
  by_cases h : a = b <;> simp [h]
/-! ### shapes at any depth -/
structure Nice (k : Nat) (d : PyData) : Prop where
  lay : d.canLay0 = true
  dep : d.depth ≤ k
theorem nice_all {k : Nat} : ∀ {ds : List PyData}, (∀ d ∈ ds, Nice k d) → PyData.canLayAll0 ds = true ∧ PyData.depthAll ds ≤ k
  | [], _ => ⟨rfl, Nat.zero_le _⟩
  | d :: ds, h => by
    obtain ⟨h1, h2⟩ := nice_all fun x hx => h x (List.mem_cons_of_mem _ hx)
    have h3 := h d List.mem_cons_self
    refine ⟨?_, ?_⟩
    · show (PyData.canLay0 d && PyData.canLayAll0 ds) = true
      rw [h3.lay, h1]; rfl
    · show max d.depth (PyData.depthAll ds) ≤ k
      have := h3.dep
      omega
theorem Nice.tup {k : Nat} {ds : List PyData} (h : ∀ d ∈ ds, Nice k d) : Nice (k + 1) (.tuple ds) := ⟨(nice_all h).1, Nat.succ_le_succ (nice_all h).2⟩
theorem Nice.lst {k : Nat} {ds : List PyData} (h : ∀ d ∈ ds, Nice k d) : Nice (k + 1) (.list ds) := ⟨(nice_all h).1, Nat.succ_le_succ (nice_all h).2⟩
theorem Nice.int (k : Nat) (i : Int) : Nice k (.int i) := ⟨rfl, Nat.zero_le _⟩
theorem Nice.bool (k : Nat) (i : Bool) : Nice k (.bool i) := ⟨rfl, Nat.zero_le _⟩
theorem Nice.none (k : Nat) : Nice k .none := ⟨rfl, Nat.zero_le _⟩
theorem Nice.str (k : Nat) {s : Str} (h : PyData.strOk s = true) : Nice k (.str s) := ⟨h, Nat.zero_le _⟩
theorem Nice.shaped {k : Nat} {d : PyData} (h : Nice k d) (hk : k ≤ 64) : SeqAt.shaped d = true := by
  unfold SeqAt.shaped
  rw [h.lay, decide_eq_true (Nat.le_trans h.dep hk)]
  rfl
theorem Nice.refl {k : Nat} {d : PyData} (h : Nice k d) : PyData.eqv d d = true := SeqAt.eqv_refl d h.lay
theorem ok_of {s : Str} (h : ∀ c ∈ s.cps.toList, c < 200) : PyData.strOk s = true := by
  unfold PyData.strOk
  rw [Array.all_eq_true']
  intro c hc
  have := h c (by simpa using hc)
  simp
  omega
theorem num_strOk (n : Nat) : PyData.strOk (numS n) = true := ok_of fun c hc => by
  rw [num_l] at hc
  have := numL_digits n c hc
  omega
theorem lx_strOk {c : Str} {k : Nat} (h : Letter c k) (hk : k < 200) (n : Nat) : PyData.strOk (lx c n) = true := ok_of fun d hd => by
  rw [lx_l h] at hd
  rcases List.mem_cons.mp hd with rfl | hd
  · exact hk
  · have := numL_digits n d hd
    omega
theorem turns2 (ns : List Int) (h : ns.length ≤ 63) (a b : Int) (hb : 0 < b) (hb2 : b < 1000) (ha0 : 1 ≤ a) (ha : a ≤ 1000) (env : VEnv) (h0 : env[0]? = some (some (.sc ns))) : ∃ m : Nat, (m : Int) ≤ a ∧ (iR gR1 (aC (cA gMin2 (aC (cC (.int a)) (aC (cA gMax2 (aC (cC (.int 1)) (aC (c2 gDiv (cA gLen (aC (cV 0) aN)) (cC (.int b))) aN))) aN))) aN)) env = .ok ((List.range m).map natI) := by
  have hd : 0 ≤ (ns.length : Int) / b := Int.ediv_nonneg (by omega) (by omega)
  obtain ⟨p, hp⟩ : ∃ p, p = (if (ns.length : Int) / b > 1 then (ns.length : Int) / b else 1) := ⟨_, rfl⟩
  have hp1 : 1 ≤ p := by rw [hp]; split <;> omega
  obtain ⟨q, hq⟩ : ∃ q, q = (if p < a then p else a) := ⟨_, rfl⟩
  have hm : q.natAbs ≤ 1000000 ∧ 0 ≤ q ∧ q ≤ a := by rw [hq]; split <;> omega
  refine ⟨q.toNat, by omega, ?_⟩
  have := e_R1 hm.1
  rw [rng_nat] at this
  have hbb : 0 < b ∧ b.natAbs < 1073741824 := by omega
  simp only [e_iR, e_aC, e_cA, e_aN, e_c2, e_V, h0, Rs.bind_ok, e_cC, e_bor4, e_lenSc, e_div, if_pos hbb, e_max2, e_min2, ← hp, ← hq, this]
/-! ### configurations -/
def canM (us : List (List Int)) (h : List Int) (s : Int) : Bool := (usAt us s).all fun u => decide (u ∈ h)
def movM (h : List Int) (s : Int) : List Int := if s ∈ h then h.filter fun x => decide (x ≠ s) else isort (h ++ [s])
theorem ne_int (a b : Int) : (!decide (a = b)) = decide (a ≠ b) := by simp
theorem lc_ints {env : VEnv} {t : VEnv → Rs Bool} (i : Nat) (xs : List Int) (p : Int → Bool) (hi : i < env.length) (h : ∀ x ∈ xs, t (env.set i (some (.d (.int x)))) = .ok (p x)) : lcF (.nm i) t (cV i) env (xs.map .int) = .ok ((xs.filter p).map .int) := by
  refine lcF_map PyData.int p PyData.int xs fun x hx => ⟨env.set i (some (.d (.int x))), by rw [e_tgnm, if_pos hi], h x hx, fun _ => ⟨.d (.int x), ?_, rfl⟩⟩
  rw [e_V, List.getElem?_set_self hi]
  rfl
theorem lc_nats {env : VEnv} {t : VEnv → Rs Bool} (i : Nat) (xs : List Nat) (p : Nat → Bool) (hi : i < env.length) (h : ∀ x ∈ xs, t (env.set i (some (.d (.int (x : Int))))) = .ok (p x)) : lcF (.nm i) t (cV i) env (xs.map natI) = .ok ((xs.filter p).map natI) := by
  refine lcF_map natI p natI xs fun x hx => ⟨env.set i (some (.d (.int x))), by rw [e_tgnm, if_pos hi]; rfl, h x hx, fun _ => ⟨.d (.int x), ?_, rfl⟩⟩
  rw [e_V, List.getElem?_set_self hi]
  rfl
def tupD (r : List Int) : PyData := .tuple (r.map .int)
theorem movM_len (h : List Int) (s : Int) : (movM h s).length ≤ h.length + 1 := by
  unfold movM
  split
  · exact Nat.le_succ_of_le (List.length_filter_le _ _)
  · rw [(isort_perm _).length_eq]; simp
def behindM (h r : List Int) : List Int := r.foldl movM h
theorem behindM_len : ∀ (r h : List Int), (behindM h r).length ≤ h.length + r.length
  | [], h => Nat.le_refl _
  | x :: r, h => by
    have := behindM_len r (movM h x)
    have := movM_len h x
    show (behindM (movM h x) r).length ≤ h.length + (r.length + 1)
    omega
theorem possible_ok (us : List (List Int)) (ts h : List Int) (s : Int) (h0 : 0 ≤ s) (h1 : s < us.length) : F_is_possible [.d (encT us ts), .d (.tuple (h.map .int)), .d (.int s)] = .ok (.d (.bool (canM us h s))) := by
  have ha := encU_at us h0 h1
  have hs : gIx (.d (encT us ts)) (.d (.int 0)) = .ok (.d (.tuple (encU us))) := rfl
  have main : ∀ (xs : List Int) (e3 : Option RV), ∃ e3' : Option RV, loopF (.nm 3) L0_is_possible (xs.map .int) [some (.d (encT us ts)), some (.d (.tuple (h.map .int))), some (.d (.int s)), e3] = if (xs.all fun u => decide (u ∈ h)) = true then .nx [some (.d (encT us ts)), some (.d (.tuple (h.map .int))), some (.d (.int s)), e3'] else .rt (.d (.bool false)) := by
    intro xs
    induction xs with
    | nil => exact fun e3 => ⟨e3, rfl⟩
    | cons x xs ih =>
      intro e3
      obtain ⟨e3', ih⟩ := ih (some (.d (.int x)))
      refine ⟨e3', ?_⟩
      rw [List.map_cons, loopF_cons]
      simp only [e_nil, e_seq, e_fz, e_bk, e_ct, e_ret, e_retN, e_drop, e_set, e_if, e_for, e_cC, e_c2, e_c1, e_cA, e_aN, e_aC, e_cB, e_asB, e_bNot, e_bAnd, e_bOr, e_vAnd, e_vOr, e_vNot, e_vIf, e_bYes, e_iL, e_iT, e_iLb, e_iR, e_gL1, e_gL2, e_gL3, e_gT, e_gLb1, e_gLb2, e_gLb3, e_gLb4, e_nb1, e_nb2, e_bor1, e_bor2, e_bor3, e_bor4, e_arg1, e_arg2, e_arg3, e_arg4, e_putd, e_puto, e_toD1, e_toD2, e_allD0, e_allD1, e_allD2, e_gTupl, e_gList, e_tgnm, e_tgtp, e_tg0, e_tg1, e_sq1, e_sq2, e_sq3, e_sq4, e_sq5, e_qv2, e_qv3, e_qv4, e_qv5, e_data1, e_data2, e_data3, e_okI, e_okB, e_i2, e_sub, e_mul, e_mod, e_div, e_pow, e_lt, e_le, e_gt, e_ge, e_neg, e_addI, e_addS, e_addT, e_addL1, e_addL2, e_addL3, e_addL4, e_addL5, e_addL6, e_addL7, e_addL8, e_addL9, e_eq, e_ne, e_in, e_notIn, e_inT, e_inT2, e_inL1, e_inL2, e_inL3, e_is, e_isNot, e_isN1, e_isN2, e_isN3, e_isN4, e_isN5, e_isN6, e_isN7, e_ixT, e_ixL, e_ixO, e_ixB, e_ixSc, e_lenT, e_lenL, e_lenO, e_lenB, e_lenSc, e_lenS, e_tupT, e_tupL, e_tupO, e_tupB, e_lisT, e_lisL, e_lisO, e_lisB, e_min2, e_max2, e_any, e_all, e_sum, e_sorted, e_rev, e_sl, e_oN, e_isi, e_lc, e_wipe0, e_wipe1, e_iA, e_iAb, e_gAq1, e_gAq2, e_gAq3, e_gAqb1, e_gAqb2, e_gAqb3, e_gAqb4, e_no, e_cCh, e_cChI, e_aug, e_decT, e_decF, e_cDispS, e_cDT, e_cDK, e_cDisp1, e_storeA, e_stR1, e_stR2, e_stR3, e_sd1, e_keyD1, e_keyD2, e_keyTD, e_intsD, e_intsD0, e_borT, e_borT2, e_borK, e_borK2, e_argT, e_argT2, e_argK, e_argK2, e_nbT, e_nbK, e_putT, e_putK, e_gAt1, e_gAt2, e_gAt3, e_gAt4, e_gGetDK, e_gGetDT, e_gIxD, e_gInD, e_gNotInD, e_cGet1, e_cGet2, e_dk1, e_dk2, e_dk3, e_dk4, e_dt1, e_dt2, e_del, atI_zero, e_at1, e_at2, e_at3, e_at4, e_at5, e_at6, e_at7, e_at8, e_at9, e_atm, e_V, e_retV, e_unp, e_app, e_store, e_fzE, oS, rsO_some, Rs.bind_ok, Rs.bind_no, Rs.out_ok, Out.then_nx, Out.then_rt, Out.then_ct, Out.then_bk, fin_rt, fin_nx, List.getElem?_cons_zero, List.getElem?_cons_succ, List.set_cons_succ, List.set_cons_zero, List.length_cons, List.length_nil, Nat.reduceAdd, Nat.reduceLT, Nat.reduceLeDiff, Nat.reduceEqDiff, if_true, if_false, Bool.false_eq_true, Bool.not_true, Bool.not_false, and_self, true_and, and_true, List.map_cons, List.map_nil, Option.map_some, sh_int, sh_bool, sh_none, sh_tup, sh_lst, eqv_int, reduceIte, Option.bind_some, Option.bind_none, kitB_ll, kitB_lt, kitB_tt, kitB_tl, kitB_ii, tyD_list, tyD_int, Bool.true_and, Bool.false_and, Bool.and_true, Bool.and_false, Bool.or_true, Bool.true_or, Bool.false_or, Bool.or_false, Bool.and_self, Bool.or_self, e_cAK, List.append_nil, List.nil_append, List.cons_append, e_andB, e_orB, e_andR, e_orR, tyD_tuple, eqv_bool, eqv_none, tyD_bool, tyD_str, tyD_none, kitB_bb, kitB_nb, kitB_bi, kitB_ib, kitB_nl, kitB_nt, beq_self_eq_true]
      have e : L0_is_possible [some (.d (encT us ts)), some (.d (.tuple (h.map .int))), some (.d (.int s)), some (.d (.int x))] = if x ∈ h then .nx [some (.d (encT us ts)), some (.d (.tuple (h.map .int))), some (.d (.int s)), some (.d (.int x))] else .rt (.d (.bool false)) := by
        unfold L0_is_possible
        by_cases hx : x ∈ h
        · simp only [e_nil, e_seq, e_fz, e_bk, e_ct, e_ret, e_retN, e_drop, e_set, e_if, e_for, e_cC, e_c2, e_c1, e_cA, e_aN, e_aC, e_cB, e_asB, e_bNot, e_bAnd, e_bOr, e_vAnd, e_vOr, e_vNot, e_vIf, e_bYes, e_iL, e_iT, e_iLb, e_iR, e_gL1, e_gL2, e_gL3, e_gT, e_gLb1, e_gLb2, e_gLb3, e_gLb4, e_nb1, e_nb2, e_bor1, e_bor2, e_bor3, e_bor4, e_arg1, e_arg2, e_arg3, e_arg4, e_putd, e_puto, e_toD1, e_toD2, e_allD0, e_allD1, e_allD2, e_gTupl, e_gList, e_tgnm, e_tgtp, e_tg0, e_tg1, e_sq1, e_sq2, e_sq3, e_sq4, e_sq5, e_qv2, e_qv3, e_qv4, e_qv5, e_data1, e_data2, e_data3, e_okI, e_okB, e_i2, e_sub, e_mul, e_mod, e_div, e_pow, e_lt, e_le, e_gt, e_ge, e_neg, e_addI, e_addS, e_addT, e_addL1, e_addL2, e_addL3, e_addL4, e_addL5, e_addL6, e_addL7, e_addL8, e_addL9, e_eq, e_ne, e_in, e_notIn, e_inT, e_inT2, e_inL1, e_inL2, e_inL3, e_is, e_isNot, e_isN1, e_isN2, e_isN3, e_isN4, e_isN5, e_isN6, e_isN7, e_ixT, e_ixL, e_ixO, e_ixB, e_ixSc, e_lenT, e_lenL, e_lenO, e_lenB, e_lenSc, e_lenS, e_tupT, e_tupL, e_tupO, e_tupB, e_lisT, e_lisL, e_lisO, e_lisB, e_min2, e_max2, e_any, e_all, e_sum, e_sorted, e_rev, e_sl, e_oN, e_isi, e_lc, e_wipe0, e_wipe1, e_iA, e_iAb, e_gAq1, e_gAq2, e_gAq3, e_gAqb1, e_gAqb2, e_gAqb3, e_gAqb4, e_no, e_cCh, e_cChI, e_aug, e_decT, e_decF, e_cDispS, e_cDT, e_cDK, e_cDisp1, e_storeA, e_stR1, e_stR2, e_stR3, e_sd1, e_keyD1, e_keyD2, e_keyTD, e_intsD, e_intsD0, e_borT, e_borT2, e_borK, e_borK2, e_argT, e_argT2, e_argK, e_argK2, e_nbT, e_nbK, e_putT, e_putK, e_gAt1, e_gAt2, e_gAt3, e_gAt4, e_gGetDK, e_gGetDT, e_gIxD, e_gInD, e_gNotInD, e_cGet1, e_cGet2, e_dk1, e_dk2, e_dk3, e_dk4, e_dt1, e_dt2, e_del, atI_zero, e_at1, e_at2, e_at3, e_at4, e_at5, e_at6, e_at7, e_at8, e_at9, e_atm, e_V, e_retV, e_unp, e_app, e_store, e_fzE, oS, rsO_some, Rs.bind_ok, Rs.bind_no, Rs.out_ok, Out.then_nx, Out.then_rt, Out.then_ct, Out.then_bk, fin_rt, fin_nx, List.getElem?_cons_zero, List.getElem?_cons_succ, List.set_cons_succ, List.set_cons_zero, List.length_cons, List.length_nil, Nat.reduceAdd, Nat.reduceLT, Nat.reduceLeDiff, Nat.reduceEqDiff, if_true, if_false, Bool.false_eq_true, Bool.not_true, Bool.not_false, and_self, true_and, and_true, List.map_cons, List.map_nil, Option.map_some, sh_int, sh_bool, sh_none, sh_tup, sh_lst, eqv_int, reduceIte, Option.bind_some, Option.bind_none, kitB_ll, kitB_lt, kitB_tt, kitB_tl, kitB_ii, tyD_list, tyD_int, Bool.true_and, Bool.false_and, Bool.and_true, Bool.and_false, Bool.or_true, Bool.true_or, Bool.false_or, Bool.or_false, Bool.and_self, Bool.or_self, e_cAK, List.append_nil, List.nil_append, List.cons_append, e_andB, e_orB, e_andR, e_orR, tyD_tuple, eqv_bool, eqv_none, tyD_bool, tyD_str, tyD_none, kitB_bb, kitB_nb, kitB_bi, kitB_ib, kitB_nl, kitB_nt, beq_self_eq_true, anyI, decide_eq_true hx, if_pos hx]
        · simp only [e_nil, e_seq, e_fz, e_bk, e_ct, e_ret, e_retN, e_drop, e_set, e_if, e_for, e_cC, e_c2, e_c1, e_cA, e_aN, e_aC, e_cB, e_asB, e_bNot, e_bAnd, e_bOr, e_vAnd, e_vOr, e_vNot, e_vIf, e_bYes, e_iL, e_iT, e_iLb, e_iR, e_gL1, e_gL2, e_gL3, e_gT, e_gLb1, e_gLb2, e_gLb3, e_gLb4, e_nb1, e_nb2, e_bor1, e_bor2, e_bor3, e_bor4, e_arg1, e_arg2, e_arg3, e_arg4, e_putd, e_puto, e_toD1, e_toD2, e_allD0, e_allD1, e_allD2, e_gTupl, e_gList, e_tgnm, e_tgtp, e_tg0, e_tg1, e_sq1, e_sq2, e_sq3, e_sq4, e_sq5, e_qv2, e_qv3, e_qv4, e_qv5, e_data1, e_data2, e_data3, e_okI, e_okB, e_i2, e_sub, e_mul, e_mod, e_div, e_pow, e_lt, e_le, e_gt, e_ge, e_neg, e_addI, e_addS, e_addT, e_addL1, e_addL2, e_addL3, e_addL4, e_addL5, e_addL6, e_addL7, e_addL8, e_addL9, e_eq, e_ne, e_in, e_notIn, e_inT, e_inT2, e_inL1, e_inL2, e_inL3, e_is, e_isNot, e_isN1, e_isN2, e_isN3, e_isN4, e_isN5, e_isN6, e_isN7, e_ixT, e_ixL, e_ixO, e_ixB, e_ixSc, e_lenT, e_lenL, e_lenO, e_lenB, e_lenSc, e_lenS, e_tupT, e_tupL, e_tupO, e_tupB, e_lisT, e_lisL, e_lisO, e_lisB, e_min2, e_max2, e_any, e_all, e_sum, e_sorted, e_rev, e_sl, e_oN, e_isi, e_lc, e_wipe0, e_wipe1, e_iA, e_iAb, e_gAq1, e_gAq2, e_gAq3, e_gAqb1, e_gAqb2, e_gAqb3, e_gAqb4, e_no, e_cCh, e_cChI, e_aug, e_decT, e_decF, e_cDispS, e_cDT, e_cDK, e_cDisp1, e_storeA, e_stR1, e_stR2, e_stR3, e_sd1, e_keyD1, e_keyD2, e_keyTD, e_intsD, e_intsD0, e_borT, e_borT2, e_borK, e_borK2, e_argT, e_argT2, e_argK, e_argK2, e_nbT, e_nbK, e_putT, e_putK, e_gAt1, e_gAt2, e_gAt3, e_gAt4, e_gGetDK, e_gGetDT, e_gIxD, e_gInD, e_gNotInD, e_cGet1, e_cGet2, e_dk1, e_dk2, e_dk3, e_dk4, e_dt1, e_dt2, e_del, atI_zero, e_at1, e_at2, e_at3, e_at4, e_at5, e_at6, e_at7, e_at8, e_at9, e_atm, e_V, e_retV, e_unp, e_app, e_store, e_fzE, oS, rsO_some, Rs.bind_ok, Rs.bind_no, Rs.out_ok, Out.then_nx, Out.then_rt, Out.then_ct, Out.then_bk, fin_rt, fin_nx, List.getElem?_cons_zero, List.getElem?_cons_succ, List.set_cons_succ, List.set_cons_zero, List.length_cons, List.length_nil, Nat.reduceAdd, Nat.reduceLT, Nat.reduceLeDiff, Nat.reduceEqDiff, if_true, if_false, Bool.false_eq_true, Bool.not_true, Bool.not_false, and_self, true_and, and_true, List.map_cons, List.map_nil, Option.map_some, sh_int, sh_bool, sh_none, sh_tup, sh_lst, eqv_int, reduceIte, Option.bind_some, Option.bind_none, kitB_ll, kitB_lt, kitB_tt, kitB_tl, kitB_ii, tyD_list, tyD_int, Bool.true_and, Bool.false_and, Bool.and_true, Bool.and_false, Bool.or_true, Bool.true_or, Bool.false_or, Bool.or_false, Bool.and_self, Bool.or_self, e_cAK, List.append_nil, List.nil_append, List.cons_append, e_andB, e_orB, e_andR, e_orR, tyD_tuple, eqv_bool, eqv_none, tyD_bool, tyD_str, tyD_none, kitB_bb, kitB_nb, kitB_bi, kitB_ib, kitB_nl, kitB_nt, beq_self_eq_true, anyI, decide_eq_false hx, if_neg hx]
      rw [e]
      by_cases hx : x ∈ h
      · rw [if_pos hx, lp_nx, ih, List.all_cons, decide_eq_true hx, Bool.true_and]
      · rw [if_neg hx, lp_rt, List.all_cons, decide_eq_false hx, Bool.false_and, if_neg Bool.false_ne_true]
  obtain ⟨e3', e1⟩ := main (usAt us s) none
  show (sSeq _ _ [some (.d (encT us ts)), some (.d (.tuple (h.map .int))), some (.d (.int s)), none]).fin = _
  simp only [e_nil, e_seq, e_fz, e_bk, e_ct, e_ret, e_retN, e_drop, e_set, e_if, e_for, e_cC, e_c2, e_c1, e_cA, e_aN, e_aC, e_cB, e_asB, e_bNot, e_bAnd, e_bOr, e_vAnd, e_vOr, e_vNot, e_vIf, e_bYes, e_iL, e_iT, e_iLb, e_iR, e_gL1, e_gL2, e_gL3, e_gT, e_gLb1, e_gLb2, e_gLb3, e_gLb4, e_nb1, e_nb2, e_bor1, e_bor2, e_bor3, e_bor4, e_arg1, e_arg2, e_arg3, e_arg4, e_putd, e_puto, e_toD1, e_toD2, e_allD0, e_allD1, e_allD2, e_gTupl, e_gList, e_tgnm, e_tgtp, e_tg0, e_tg1, e_sq1, e_sq2, e_sq3, e_sq4, e_sq5, e_qv2, e_qv3, e_qv4, e_qv5, e_data1, e_data2, e_data3, e_okI, e_okB, e_i2, e_sub, e_mul, e_mod, e_div, e_pow, e_lt, e_le, e_gt, e_ge, e_neg, e_addI, e_addS, e_addT, e_addL1, e_addL2, e_addL3, e_addL4, e_addL5, e_addL6, e_addL7, e_addL8, e_addL9, e_eq, e_ne, e_in, e_notIn, e_inT, e_inT2, e_inL1, e_inL2, e_inL3, e_is, e_isNot, e_isN1, e_isN2, e_isN3, e_isN4, e_isN5, e_isN6, e_isN7, e_ixT, e_ixL, e_ixO, e_ixB, e_ixSc, e_lenT, e_lenL, e_lenO, e_lenB, e_lenSc, e_lenS, e_tupT, e_tupL, e_tupO, e_tupB, e_lisT, e_lisL, e_lisO, e_lisB, e_min2, e_max2, e_any, e_all, e_sum, e_sorted, e_rev, e_sl, e_oN, e_isi, e_lc, e_wipe0, e_wipe1, e_iA, e_iAb, e_gAq1, e_gAq2, e_gAq3, e_gAqb1, e_gAqb2, e_gAqb3, e_gAqb4, e_no, e_cCh, e_cChI, e_aug, e_decT, e_decF, e_cDispS, e_cDT, e_cDK, e_cDisp1, e_storeA, e_stR1, e_stR2, e_stR3, e_sd1, e_keyD1, e_keyD2, e_keyTD, e_intsD, e_intsD0, e_borT, e_borT2, e_borK, e_borK2, e_argT, e_argT2, e_argK, e_argK2, e_nbT, e_nbK, e_putT, e_putK, e_gAt1, e_gAt2, e_gAt3, e_gAt4, e_gGetDK, e_gGetDT, e_gIxD, e_gInD, e_gNotInD, e_cGet1, e_cGet2, e_dk1, e_dk2, e_dk3, e_dk4, e_dt1, e_dt2, e_del, atI_zero, e_at1, e_at2, e_at3, e_at4, e_at5, e_at6, e_at7, e_at8, e_at9, e_atm, e_V, e_retV, e_unp, e_app, e_store, e_fzE, oS, rsO_some, Rs.bind_ok, Rs.bind_no, Rs.out_ok, Out.then_nx, Out.then_rt, Out.then_ct, Out.then_bk, fin_rt, fin_nx, List.getElem?_cons_zero, List.getElem?_cons_succ, List.set_cons_succ, List.set_cons_zero, List.length_cons, List.length_nil, Nat.reduceAdd, Nat.reduceLT, Nat.reduceLeDiff, Nat.reduceEqDiff, if_true, if_false, Bool.false_eq_true, Bool.not_true, Bool.not_false, and_self, true_and, and_true, List.map_cons, List.map_nil, Option.map_some, sh_int, sh_bool, sh_none, sh_tup, sh_lst, eqv_int, reduceIte, Option.bind_some, Option.bind_none, kitB_ll, kitB_lt, kitB_tt, kitB_tl, kitB_ii, tyD_list, tyD_int, Bool.true_and, Bool.false_and, Bool.and_true, Bool.and_false, Bool.or_true, Bool.true_or, Bool.false_or, Bool.or_false, Bool.and_self, Bool.or_self, e_cAK, List.append_nil, List.nil_append, List.cons_append, e_andB, e_orB, e_andR, e_orR, tyD_tuple, eqv_bool, eqv_none, tyD_bool, tyD_str, tyD_none, kitB_bb, kitB_nb, kitB_bi, kitB_ib, kitB_nl, kitB_nt, beq_self_eq_true, hs, ha, e1]
  cases hc : canM us h s with
  | true =>
    have e : ((usAt us s).all fun u => decide (u ∈ h)) = true := hc
    rw [if_pos e]
    simp only [e_nil, e_seq, e_fz, e_bk, e_ct, e_ret, e_retN, e_drop, e_set, e_if, e_for, e_cC, e_c2, e_c1, e_cA, e_aN, e_aC, e_cB, e_asB, e_bNot, e_bAnd, e_bOr, e_vAnd, e_vOr, e_vNot, e_vIf, e_bYes, e_iL, e_iT, e_iLb, e_iR, e_gL1, e_gL2, e_gL3, e_gT, e_gLb1, e_gLb2, e_gLb3, e_gLb4, e_nb1, e_nb2, e_bor1, e_bor2, e_bor3, e_bor4, e_arg1, e_arg2, e_arg3, e_arg4, e_putd, e_puto, e_toD1, e_toD2, e_allD0, e_allD1, e_allD2, e_gTupl, e_gList, e_tgnm, e_tgtp, e_tg0, e_tg1, e_sq1, e_sq2, e_sq3, e_sq4, e_sq5, e_qv2, e_qv3, e_qv4, e_qv5, e_data1, e_data2, e_data3, e_okI, e_okB, e_i2, e_sub, e_mul, e_mod, e_div, e_pow, e_lt, e_le, e_gt, e_ge, e_neg, e_addI, e_addS, e_addT, e_addL1, e_addL2, e_addL3, e_addL4, e_addL5, e_addL6, e_addL7, e_addL8, e_addL9, e_eq, e_ne, e_in, e_notIn, e_inT, e_inT2, e_inL1, e_inL2, e_inL3, e_is, e_isNot, e_isN1, e_isN2, e_isN3, e_isN4, e_isN5, e_isN6, e_isN7, e_ixT, e_ixL, e_ixO, e_ixB, e_ixSc, e_lenT, e_lenL, e_lenO, e_lenB, e_lenSc, e_lenS, e_tupT, e_tupL, e_tupO, e_tupB, e_lisT, e_lisL, e_lisO, e_lisB, e_min2, e_max2, e_any, e_all, e_sum, e_sorted, e_rev, e_sl, e_oN, e_isi, e_lc, e_wipe0, e_wipe1, e_iA, e_iAb, e_gAq1, e_gAq2, e_gAq3, e_gAqb1, e_gAqb2, e_gAqb3, e_gAqb4, e_no, e_cCh, e_cChI, e_aug, e_decT, e_decF, e_cDispS, e_cDT, e_cDK, e_cDisp1, e_storeA, e_stR1, e_stR2, e_stR3, e_sd1, e_keyD1, e_keyD2, e_keyTD, e_intsD, e_intsD0, e_borT, e_borT2, e_borK, e_borK2, e_argT, e_argT2, e_argK, e_argK2, e_nbT, e_nbK, e_putT, e_putK, e_gAt1, e_gAt2, e_gAt3, e_gAt4, e_gGetDK, e_gGetDT, e_gIxD, e_gInD, e_gNotInD, e_cGet1, e_cGet2, e_dk1, e_dk2, e_dk3, e_dk4, e_dt1, e_dt2, e_del, atI_zero, e_at1, e_at2, e_at3, e_at4, e_at5, e_at6, e_at7, e_at8, e_at9, e_atm, e_V, e_retV, e_unp, e_app, e_store, e_fzE, oS, rsO_some, Rs.bind_ok, Rs.bind_no, Rs.out_ok, Out.then_nx, Out.then_rt, Out.then_ct, Out.then_bk, fin_rt, fin_nx, List.getElem?_cons_zero, List.getElem?_cons_succ, List.set_cons_succ, List.set_cons_zero, List.length_cons, List.length_nil, Nat.reduceAdd, Nat.reduceLT, Nat.reduceLeDiff, Nat.reduceEqDiff, if_true, if_false, Bool.false_eq_true, Bool.not_true, Bool.not_false, and_self, true_and, and_true, List.map_cons, List.map_nil, Option.map_some, sh_int, sh_bool, sh_none, sh_tup, sh_lst, eqv_int, reduceIte, Option.bind_some, Option.bind_none, kitB_ll, kitB_lt, kitB_tt, kitB_tl, kitB_ii, tyD_list, tyD_int, Bool.true_and, Bool.false_and, Bool.and_true, Bool.and_false, Bool.or_true, Bool.true_or, Bool.false_or, Bool.or_false, Bool.and_self, Bool.or_self, e_cAK, List.append_nil, List.nil_append, List.cons_append, e_andB, e_orB, e_andR, e_orR, tyD_tuple, eqv_bool, eqv_none, tyD_bool, tyD_str, tyD_none, kitB_bb, kitB_nb, kitB_bi, kitB_ib, kitB_nl, kitB_nt, beq_self_eq_true]
  | false =>
    have : ¬ ((usAt us s).all fun u => decide (u ∈ h)) = true := by
      have e : ((usAt us s).all fun u => decide (u ∈ h)) = false := hc
      rw [e]; exact Bool.false_ne_true
    rw [if_neg this]
    simp only [e_nil, e_seq, e_fz, e_bk, e_ct, e_ret, e_retN, e_drop, e_set, e_if, e_for, e_cC, e_c2, e_c1, e_cA, e_aN, e_aC, e_cB, e_asB, e_bNot, e_bAnd, e_bOr, e_vAnd, e_vOr, e_vNot, e_vIf, e_bYes, e_iL, e_iT, e_iLb, e_iR, e_gL1, e_gL2, e_gL3, e_gT, e_gLb1, e_gLb2, e_gLb3, e_gLb4, e_nb1, e_nb2, e_bor1, e_bor2, e_bor3, e_bor4, e_arg1, e_arg2, e_arg3, e_arg4, e_putd, e_puto, e_toD1, e_toD2, e_allD0, e_allD1, e_allD2, e_gTupl, e_gList, e_tgnm, e_tgtp, e_tg0, e_tg1, e_sq1, e_sq2, e_sq3, e_sq4, e_sq5, e_qv2, e_qv3, e_qv4, e_qv5, e_data1, e_data2, e_data3, e_okI, e_okB, e_i2, e_sub, e_mul, e_mod, e_div, e_pow, e_lt, e_le, e_gt, e_ge, e_neg, e_addI, e_addS, e_addT, e_addL1, e_addL2, e_addL3, e_addL4, e_addL5, e_addL6, e_addL7, e_addL8, e_addL9, e_eq, e_ne, e_in, e_notIn, e_inT, e_inT2, e_inL1, e_inL2, e_inL3, e_is, e_isNot, e_isN1, e_isN2, e_isN3, e_isN4, e_isN5, e_isN6, e_isN7, e_ixT, e_ixL, e_ixO, e_ixB, e_ixSc, e_lenT, e_lenL, e_lenO, e_lenB, e_lenSc, e_lenS, e_tupT, e_tupL, e_tupO, e_tupB, e_lisT, e_lisL, e_lisO, e_lisB, e_min2, e_max2, e_any, e_all, e_sum, e_sorted, e_rev, e_sl, e_oN, e_isi, e_lc, e_wipe0, e_wipe1, e_iA, e_iAb, e_gAq1, e_gAq2, e_gAq3, e_gAqb1, e_gAqb2, e_gAqb3, e_gAqb4, e_no, e_cCh, e_cChI, e_aug, e_decT, e_decF, e_cDispS, e_cDT, e_cDK, e_cDisp1, e_storeA, e_stR1, e_stR2, e_stR3, e_sd1, e_keyD1, e_keyD2, e_keyTD, e_intsD, e_intsD0, e_borT, e_borT2, e_borK, e_borK2, e_argT, e_argT2, e_argK, e_argK2, e_nbT, e_nbK, e_putT, e_putK, e_gAt1, e_gAt2, e_gAt3, e_gAt4, e_gGetDK, e_gGetDT, e_gIxD, e_gInD, e_gNotInD, e_cGet1, e_cGet2, e_dk1, e_dk2, e_dk3, e_dk4, e_dt1, e_dt2, e_del, atI_zero, e_at1, e_at2, e_at3, e_at4, e_at5, e_at6, e_at7, e_at8, e_at9, e_atm, e_V, e_retV, e_unp, e_app, e_store, e_fzE, oS, rsO_some, Rs.bind_ok, Rs.bind_no, Rs.out_ok, Out.then_nx, Out.then_rt, Out.then_ct, Out.then_bk, fin_rt, fin_nx, List.getElem?_cons_zero, List.getElem?_cons_succ, List.set_cons_succ, List.set_cons_zero, List.length_cons, List.length_nil, Nat.reduceAdd, Nat.reduceLT, Nat.reduceLeDiff, Nat.reduceEqDiff, if_true, if_false, Bool.false_eq_true, Bool.not_true, Bool.not_false, and_self, true_and, and_true, List.map_cons, List.map_nil, Option.map_some, sh_int, sh_bool, sh_none, sh_tup, sh_lst, eqv_int, reduceIte, Option.bind_some, Option.bind_none, kitB_ll, kitB_lt, kitB_tt, kitB_tl, kitB_ii, tyD_list, tyD_int, Bool.true_and, Bool.false_and, Bool.and_true, Bool.and_false, Bool.or_true, Bool.true_or, Bool.false_or, Bool.or_false, Bool.and_self, Bool.or_self, e_cAK, List.append_nil, List.nil_append, List.cons_append, e_andB, e_orB, e_andR, e_orR, tyD_tuple, eqv_bool, eqv_none, tyD_bool, tyD_str, tyD_none, kitB_bb, kitB_nb, kitB_bi, kitB_ib, kitB_nl, kitB_nt, beq_self_eq_true]
theorem moved_ok (h : List Int) (s : Int) (hl : h.length ≤ 1000) : F_moved [.d (.tuple (h.map .int)), .d (.int s)] = .ok (.d (.tuple ((movM h s).map .int))) := by
  show (sSeq _ _ [some (.d (.tuple (h.map .int))), some (.d (.int s)), none]).fin = _
  have hz : h.length ≤ 1000000 := by omega
  have hz2 : h.length ≤ 999999 := by omega
  have hc : lcF (.nm 2) (cB (c2 gNe (cV 2) (cV 1))) (cV 2) [some (.d (.tuple (h.map .int))), some (.d (.int s)), none] (h.map .int) = .ok ((h.filter fun x => decide (x ≠ s)).map .int) :=
    lc_ints 2 h _ (by simp) fun x _ => by
      simp only [List.set_cons_succ, List.set_cons_zero]
      simp only [e_nil, e_seq, e_fz, e_bk, e_ct, e_ret, e_retN, e_drop, e_set, e_if, e_for, e_cC, e_c2, e_c1, e_cA, e_aN, e_aC, e_cB, e_asB, e_bNot, e_bAnd, e_bOr, e_vAnd, e_vOr, e_vNot, e_vIf, e_bYes, e_iL, e_iT, e_iLb, e_iR, e_gL1, e_gL2, e_gL3, e_gT, e_gLb1, e_gLb2, e_gLb3, e_gLb4, e_nb1, e_nb2, e_bor1, e_bor2, e_bor3, e_bor4, e_arg1, e_arg2, e_arg3, e_arg4, e_putd, e_puto, e_toD1, e_toD2, e_allD0, e_allD1, e_allD2, e_gTupl, e_gList, e_tgnm, e_tgtp, e_tg0, e_tg1, e_sq1, e_sq2, e_sq3, e_sq4, e_sq5, e_qv2, e_qv3, e_qv4, e_qv5, e_data1, e_data2, e_data3, e_okI, e_okB, e_i2, e_sub, e_mul, e_mod, e_div, e_pow, e_lt, e_le, e_gt, e_ge, e_neg, e_addI, e_addS, e_addT, e_addL1, e_addL2, e_addL3, e_addL4, e_addL5, e_addL6, e_addL7, e_addL8, e_addL9, e_eq, e_ne, e_in, e_notIn, e_inT, e_inT2, e_inL1, e_inL2, e_inL3, e_is, e_isNot, e_isN1, e_isN2, e_isN3, e_isN4, e_isN5, e_isN6, e_isN7, e_ixT, e_ixL, e_ixO, e_ixB, e_ixSc, e_lenT, e_lenL, e_lenO, e_lenB, e_lenSc, e_lenS, e_tupT, e_tupL, e_tupO, e_tupB, e_lisT, e_lisL, e_lisO, e_lisB, e_min2, e_max2, e_any, e_all, e_sum, e_sorted, e_rev, e_sl, e_oN, e_isi, e_lc, e_wipe0, e_wipe1, e_iA, e_iAb, e_gAq1, e_gAq2, e_gAq3, e_gAqb1, e_gAqb2, e_gAqb3, e_gAqb4, e_no, e_cCh, e_cChI, e_aug, e_decT, e_decF, e_cDispS, e_cDT, e_cDK, e_cDisp1, e_storeA, e_stR1, e_stR2, e_stR3, e_sd1, e_keyD1, e_keyD2, e_keyTD, e_intsD, e_intsD0, e_borT, e_borT2, e_borK, e_borK2, e_argT, e_argT2, e_argK, e_argK2, e_nbT, e_nbK, e_putT, e_putK, e_gAt1, e_gAt2, e_gAt3, e_gAt4, e_gGetDK, e_gGetDT, e_gIxD, e_gInD, e_gNotInD, e_cGet1, e_cGet2, e_dk1, e_dk2, e_dk3, e_dk4, e_dt1, e_dt2, e_del, atI_zero, e_at1, e_at2, e_at3, e_at4, e_at5, e_at6, e_at7, e_at8, e_at9, e_atm, e_V, e_retV, e_unp, e_app, e_store, e_fzE, oS, rsO_some, Rs.bind_ok, Rs.bind_no, Rs.out_ok, Out.then_nx, Out.then_rt, Out.then_ct, Out.then_bk, fin_rt, fin_nx, List.getElem?_cons_zero, List.getElem?_cons_succ, List.set_cons_succ, List.set_cons_zero, List.length_cons, List.length_nil, Nat.reduceAdd, Nat.reduceLT, Nat.reduceLeDiff, Nat.reduceEqDiff, if_true, if_false, Bool.false_eq_true, Bool.not_true, Bool.not_false, and_self, true_and, and_true, List.map_cons, List.map_nil, Option.map_some, sh_int, sh_bool, sh_none, sh_tup, sh_lst, eqv_int, reduceIte, Option.bind_some, Option.bind_none, kitB_ll, kitB_lt, kitB_tt, kitB_tl, kitB_ii, tyD_list, tyD_int, Bool.true_and, Bool.false_and, Bool.and_true, Bool.and_false, Bool.or_true, Bool.true_or, Bool.false_or, Bool.or_false, Bool.and_self, Bool.or_self, e_cAK, List.append_nil, List.nil_append, List.cons_append, e_andB, e_orB, e_andR, e_orR, tyD_tuple, eqv_bool, eqv_none, tyD_bool, tyD_str, tyD_none, kitB_bb, kitB_nb, kitB_bi, kitB_ib, kitB_nl, kitB_nt, beq_self_eq_true, ne_int]
  have hm : (h.map PyData.int ++ [.int s]) = (h ++ [s]).map PyData.int := by simp
  by_cases hs : s ∈ h
  · have : movM h s = h.filter fun x => decide (x ≠ s) := if_pos hs
    rw [this]
    simp only [e_nil, e_seq, e_fz, e_bk, e_ct, e_ret, e_retN, e_drop, e_set, e_if, e_for, e_cC, e_c2, e_c1, e_cA, e_aN, e_aC, e_cB, e_asB, e_bNot, e_bAnd, e_bOr, e_vAnd, e_vOr, e_vNot, e_vIf, e_bYes, e_iL, e_iT, e_iLb, e_iR, e_gL1, e_gL2, e_gL3, e_gT, e_gLb1, e_gLb2, e_gLb3, e_gLb4, e_nb1, e_nb2, e_bor1, e_bor2, e_bor3, e_bor4, e_arg1, e_arg2, e_arg3, e_arg4, e_putd, e_puto, e_toD1, e_toD2, e_allD0, e_allD1, e_allD2, e_gTupl, e_gList, e_tgnm, e_tgtp, e_tg0, e_tg1, e_sq1, e_sq2, e_sq3, e_sq4, e_sq5, e_qv2, e_qv3, e_qv4, e_qv5, e_data1, e_data2, e_data3, e_okI, e_okB, e_i2, e_sub, e_mul, e_mod, e_div, e_pow, e_lt, e_le, e_gt, e_ge, e_neg, e_addI, e_addS, e_addT, e_addL1, e_addL2, e_addL3, e_addL4, e_addL5, e_addL6, e_addL7, e_addL8, e_addL9, e_eq, e_ne, e_in, e_notIn, e_inT, e_inT2, e_inL1, e_inL2, e_inL3, e_is, e_isNot, e_isN1, e_isN2, e_isN3, e_isN4, e_isN5, e_isN6, e_isN7, e_ixT, e_ixL, e_ixO, e_ixB, e_ixSc, e_lenT, e_lenL, e_lenO, e_lenB, e_lenSc, e_lenS, e_tupT, e_tupL, e_tupO, e_tupB, e_lisT, e_lisL, e_lisO, e_lisB, e_min2, e_max2, e_any, e_all, e_sum, e_sorted, e_rev, e_sl, e_oN, e_isi, e_lc, e_wipe0, e_wipe1, e_iA, e_iAb, e_gAq1, e_gAq2, e_gAq3, e_gAqb1, e_gAqb2, e_gAqb3, e_gAqb4, e_no, e_cCh, e_cChI, e_aug, e_decT, e_decF, e_cDispS, e_cDT, e_cDK, e_cDisp1, e_storeA, e_stR1, e_stR2, e_stR3, e_sd1, e_keyD1, e_keyD2, e_keyTD, e_intsD, e_intsD0, e_borT, e_borT2, e_borK, e_borK2, e_argT, e_argT2, e_argK, e_argK2, e_nbT, e_nbK, e_putT, e_putK, e_gAt1, e_gAt2, e_gAt3, e_gAt4, e_gGetDK, e_gGetDT, e_gIxD, e_gInD, e_gNotInD, e_cGet1, e_cGet2, e_dk1, e_dk2, e_dk3, e_dk4, e_dt1, e_dt2, e_del, atI_zero, e_at1, e_at2, e_at3, e_at4, e_at5, e_at6, e_at7, e_at8, e_at9, e_atm, e_V, e_retV, e_unp, e_app, e_store, e_fzE, oS, rsO_some, Rs.bind_ok, Rs.bind_no, Rs.out_ok, Out.then_nx, Out.then_rt, Out.then_ct, Out.then_bk, fin_rt, fin_nx, List.getElem?_cons_zero, List.getElem?_cons_succ, List.set_cons_succ, List.set_cons_zero, List.length_cons, List.length_nil, Nat.reduceAdd, Nat.reduceLT, Nat.reduceLeDiff, Nat.reduceEqDiff, if_true, if_false, Bool.false_eq_true, Bool.not_true, Bool.not_false, and_self, true_and, and_true, List.map_cons, List.map_nil, Option.map_some, sh_int, sh_bool, sh_none, sh_tup, sh_lst, eqv_int, reduceIte, Option.bind_some, Option.bind_none, kitB_ll, kitB_lt, kitB_tt, kitB_tl, kitB_ii, tyD_list, tyD_int, Bool.true_and, Bool.false_and, Bool.and_true, Bool.and_false, Bool.or_true, Bool.true_or, Bool.false_or, Bool.or_false, Bool.and_self, Bool.or_self, e_cAK, List.append_nil, List.nil_append, List.cons_append, e_andB, e_orB, e_andR, e_orR, tyD_tuple, eqv_bool, eqv_none, tyD_bool, tyD_str, tyD_none, kitB_bb, kitB_nb, kitB_bi, kitB_ib, kitB_nl, kitB_nt, beq_self_eq_true, anyI, decide_eq_true hs, List.length_map, if_pos hz, hc]
  · have : movM h s = isort (h ++ [s]) := if_neg hs
    rw [this]
    simp only [e_nil, e_seq, e_fz, e_bk, e_ct, e_ret, e_retN, e_drop, e_set, e_if, e_for, e_cC, e_c2, e_c1, e_cA, e_aN, e_aC, e_cB, e_asB, e_bNot, e_bAnd, e_bOr, e_vAnd, e_vOr, e_vNot, e_vIf, e_bYes, e_iL, e_iT, e_iLb, e_iR, e_gL1, e_gL2, e_gL3, e_gT, e_gLb1, e_gLb2, e_gLb3, e_gLb4, e_nb1, e_nb2, e_bor1, e_bor2, e_bor3, e_bor4, e_arg1, e_arg2, e_arg3, e_arg4, e_putd, e_puto, e_toD1, e_toD2, e_allD0, e_allD1, e_allD2, e_gTupl, e_gList, e_tgnm, e_tgtp, e_tg0, e_tg1, e_sq1, e_sq2, e_sq3, e_sq4, e_sq5, e_qv2, e_qv3, e_qv4, e_qv5, e_data1, e_data2, e_data3, e_okI, e_okB, e_i2, e_sub, e_mul, e_mod, e_div, e_pow, e_lt, e_le, e_gt, e_ge, e_neg, e_addI, e_addS, e_addT, e_addL1, e_addL2, e_addL3, e_addL4, e_addL5, e_addL6, e_addL7, e_addL8, e_addL9, e_eq, e_ne, e_in, e_notIn, e_inT, e_inT2, e_inL1, e_inL2, e_inL3, e_is, e_isNot, e_isN1, e_isN2, e_isN3, e_isN4, e_isN5, e_isN6, e_isN7, e_ixT, e_ixL, e_ixO, e_ixB, e_ixSc, e_lenT, e_lenL, e_lenO, e_lenB, e_lenSc, e_lenS, e_tupT, e_tupL, e_tupO, e_tupB, e_lisT, e_lisL, e_lisO, e_lisB, e_min2, e_max2, e_any, e_all, e_sum, e_sorted, e_rev, e_sl, e_oN, e_isi, e_lc, e_wipe0, e_wipe1, e_iA, e_iAb, e_gAq1, e_gAq2, e_gAq3, e_gAqb1, e_gAqb2, e_gAqb3, e_gAqb4, e_no, e_cCh, e_cChI, e_aug, e_decT, e_decF, e_cDispS, e_cDT, e_cDK, e_cDisp1, e_storeA, e_stR1, e_stR2, e_stR3, e_sd1, e_keyD1, e_keyD2, e_keyTD, e_intsD, e_intsD0, e_borT, e_borT2, e_borK, e_borK2, e_argT, e_argT2, e_argK, e_argK2, e_nbT, e_nbK, e_putT, e_putK, e_gAt1, e_gAt2, e_gAt3, e_gAt4, e_gGetDK, e_gGetDT, e_gIxD, e_gInD, e_gNotInD, e_cGet1, e_cGet2, e_dk1, e_dk2, e_dk3, e_dk4, e_dt1, e_dt2, e_del, atI_zero, e_at1, e_at2, e_at3, e_at4, e_at5, e_at6, e_at7, e_at8, e_at9, e_atm, e_V, e_retV, e_unp, e_app, e_store, e_fzE, oS, rsO_some, Rs.bind_ok, Rs.bind_no, Rs.out_ok, Out.then_nx, Out.then_rt, Out.then_ct, Out.then_bk, fin_rt, fin_nx, List.getElem?_cons_zero, List.getElem?_cons_succ, List.set_cons_succ, List.set_cons_zero, List.length_cons, List.length_nil, Nat.reduceAdd, Nat.reduceLT, Nat.reduceLeDiff, Nat.reduceEqDiff, if_true, if_false, Bool.false_eq_true, Bool.not_true, Bool.not_false, and_self, true_and, and_true, List.map_cons, List.map_nil, Option.map_some, sh_int, sh_bool, sh_none, sh_tup, sh_lst, eqv_int, reduceIte, Option.bind_some, Option.bind_none, kitB_ll, kitB_lt, kitB_tt, kitB_tl, kitB_ii, tyD_list, tyD_int, Bool.true_and, Bool.false_and, Bool.and_true, Bool.and_false, Bool.or_true, Bool.true_or, Bool.false_or, Bool.or_false, Bool.and_self, Bool.or_self, e_cAK, List.append_nil, List.nil_append, List.cons_append, e_andB, e_orB, e_andR, e_orR, tyD_tuple, eqv_bool, eqv_none, tyD_bool, tyD_str, tyD_none, kitB_bb, kitB_nb, kitB_bi, kitB_ib, kitB_nl, kitB_nt, beq_self_eq_true, anyI, decide_eq_false hs, List.length_map, if_pos hz2, hm, intsD_map]
/-! ### plans walked -/
def confsM : List Int → List Int → List (List Int)
  | h, [] => [h]
  | h, s :: r => h :: confsM (movM h s) r
def endM (h p : List Int) : List Int := p.foldl movM h
def goodM (us : List (List Int)) : List Int → List Int → Prop
  | _, [] => True
  | h, s :: r => (0 ≤ s ∧ s < us.length ∧ canM us h s = true) ∧ goodM us (movM h s) r
theorem confs_snoc (s : Int) : ∀ (p h : List Int), confsM h (p ++ [s]) = confsM h p ++ [movM (endM h p) s]
  | [], h => rfl
  | x :: p, h => by
    show h :: confsM (movM h x) (p ++ [s]) = h :: (confsM (movM h x) p ++ [movM (endM (movM h x) p) s])
    rw [confs_snoc s p (movM h x)]
theorem good_snoc (us : List (List Int)) (s : Int) : ∀ (p h : List Int), goodM us h p → (0 ≤ s ∧ s < us.length ∧ canM us (endM h p) s = true) → goodM us h (p ++ [s])
  | [], h, _, g => ⟨g, trivial⟩
  | x :: p, h, k, g => ⟨k.1, good_snoc us s p (movM h x) k.2 g⟩
theorem end_snoc (h p : List Int) (s : Int) : endM h (p ++ [s]) = movM (endM h p) s := by
  unfold endM
  rw [List.foldl_append]
  rfl
theorem confs_len : ∀ (p h : List Int), (confsM h p).length = p.length + 1
  | [], h => rfl
  | x :: p, h => by
    show (confsM (movM h x) p).length + 1 = _
    rw [confs_len p]; rfl
theorem confs_bound : ∀ (p h : List Int) (c : List Int), c ∈ confsM h p → c.length ≤ h.length + p.length
  | [], h, c, hc => by
    rw [List.mem_singleton.mp hc]; simp
  | x :: p, h, c, hc => by
    have hm := movM_len h x
    rcases List.mem_cons.mp hc with rfl | hc
    · simp
    · have := confs_bound p (movM h x) c hc
      simp
      omega
theorem confs_last : ∀ (p h : List Int), ∃ xs, confsM h p = xs ++ [endM h p]
  | [], h => ⟨[], rfl⟩
  | x :: p, h => by
    obtain ⟨xs, e⟩ := confs_last p (movM h x)
    exact ⟨h :: xs, by show h :: confsM (movM h x) p = _; rw [e]; rfl⟩
theorem e_max1 (r : RV) : gMax1 [r] = (rsO r.qv).bind fun xs => (rsO (intsD xs)).bind fun bs => (rsO (maxL bs)).bind okI := rfl
/-- a list of ints or the same borrowed -/
theorem walk_loop (us : List (List Int)) (ts : List Int) (P S : RV) (hPb : P.bor = P) (all : List Int) (hP : ∀ (i : Nat) (s : Int), all[i]? = some s → gIx P (.d (.int i)) = .ok (.d (.int s))) :
    ∀ (r : List Int) (k : Nat) (pre : List (List Int)) (h : List Int) (e4 : Option RV), all.drop k = r → goodM us h r → pre.length + r.length ≤ 1000 → h.length + r.length ≤ 1000 →
    ∃ e4', loopF (.nm 4) L0_walk ((List.range' k r.length).map natI) [some (.d (encT us ts)), some P, some S, some (.ol ((pre ++ [h]).map tupD)), e4] = .nx [some (.d (encT us ts)), some P, some S, some (.ol ((pre ++ confsM h r).map tupD)), e4']
  | [], k, pre, h, e4, _, _, _, _ => ⟨e4, rfl⟩
  | s :: r, k, pre, h, e4, hd, g, hl, hl2 => by
    rw [List.length_cons] at hl hl2
    have hk : all[k]? = some s := by
      have := congrArg (fun l => l[0]?) hd
      simpa using this
    have hix := hP k s hk
    have hml := movM_len h s
    obtain ⟨e4', ih⟩ := walk_loop us ts P S hPb all hP r (k + 1) (pre ++ [h]) (movM h s) (some (.d (.int k))) (by rw [← List.drop_drop, hd]; rfl) g.2 (by simp; omega) (by omega)
    refine ⟨e4', ?_⟩
    rw [List.length_cons, List.range'_succ, List.map_cons, loopF_cons]
    have ht : tgE (.nm 4) (natI k) [some (.d (encT us ts)), some P, some S, some (.ol ((pre ++ [h]).map tupD)), e4] = some [some (.d (encT us ts)), some P, some S, some (.ol ((pre ++ [h]).map tupD)), some (.d (.int k))] := rfl
    rw [ht]
    have p1 := possible_ok us ts h s g.1.1 g.1.2.1
    rw [g.1.2.2] at p1
    have p2 := moved_ok h s (by omega)
    have hz : pre.length ≤ 999999 := by omega
    have hb : L0_walk [some (.d (encT us ts)), some P, some S, some (.ol ((pre ++ [h]).map tupD)), some (.d (.int k))] = .nx [some (.d (encT us ts)), some P, some S, some (.ol ((pre ++ [h] ++ [movM h s]).map tupD)), some (.d (.int k))] := by
      have hm : ∀ x : List Int, (pre ++ [x]).map tupD = pre.map tupD ++ [.tuple (x.map .int)] := fun x => by rw [List.map_append]; rfl
      have hm2 : (pre ++ [h] ++ [movM h s]).map tupD = pre.map tupD ++ [.tuple (h.map .int)] ++ [.tuple ((movM h s).map .int)] := by rw [List.map_append, hm]; rfl
      unfold L0_walk
      rw [hm, hm2]
      simp only [e_nil, e_seq, e_fz, e_bk, e_ct, e_ret, e_retN, e_drop, e_set, e_if, e_for, e_cC, e_c2, e_c1, e_cA, e_aN, e_aC, e_cB, e_asB, e_bNot, e_bAnd, e_bOr, e_vAnd, e_vOr, e_vNot, e_vIf, e_bYes, e_iL, e_iT, e_iLb, e_iR, e_gL1, e_gL2, e_gL3, e_gT, e_gLb1, e_gLb2, e_gLb3, e_gLb4, e_nb1, e_nb2, e_bor1, e_bor2, e_bor3, e_bor4, e_arg1, e_arg2, e_arg3, e_arg4, e_putd, e_puto, e_toD1, e_toD2, e_allD0, e_allD1, e_allD2, e_gTupl, e_gList, e_tgnm, e_tgtp, e_tg0, e_tg1, e_sq1, e_sq2, e_sq3, e_sq4, e_sq5, e_qv2, e_qv3, e_qv4, e_qv5, e_data1, e_data2, e_data3, e_okI, e_okB, e_i2, e_sub, e_mul, e_mod, e_div, e_pow, e_lt, e_le, e_gt, e_ge, e_neg, e_addI, e_addS, e_addT, e_addL1, e_addL2, e_addL3, e_addL4, e_addL5, e_addL6, e_addL7, e_addL8, e_addL9, e_eq, e_ne, e_in, e_notIn, e_inT, e_inT2, e_inL1, e_inL2, e_inL3, e_is, e_isNot, e_isN1, e_isN2, e_isN3, e_isN4, e_isN5, e_isN6, e_isN7, e_ixT, e_ixL, e_ixO, e_ixB, e_ixSc, e_lenT, e_lenL, e_lenO, e_lenB, e_lenSc, e_lenS, e_tupT, e_tupL, e_tupO, e_tupB, e_lisT, e_lisL, e_lisO, e_lisB, e_min2, e_max2, e_any, e_all, e_sum, e_sorted, e_rev, e_sl, e_oN, e_isi, e_lc, e_wipe0, e_wipe1, e_iA, e_iAb, e_gAq1, e_gAq2, e_gAq3, e_gAqb1, e_gAqb2, e_gAqb3, e_gAqb4, e_no, e_cCh, e_cChI, e_aug, e_decT, e_decF, e_cDispS, e_cDT, e_cDK, e_cDisp1, e_storeA, e_stR1, e_stR2, e_stR3, e_sd1, e_keyD1, e_keyD2, e_keyTD, e_intsD, e_intsD0, e_borT, e_borT2, e_borK, e_borK2, e_argT, e_argT2, e_argK, e_argK2, e_nbT, e_nbK, e_putT, e_putK, e_gAt1, e_gAt2, e_gAt3, e_gAt4, e_gGetDK, e_gGetDT, e_gIxD, e_gInD, e_gNotInD, e_cGet1, e_cGet2, e_dk1, e_dk2, e_dk3, e_dk4, e_dt1, e_dt2, e_del, atI_zero, e_at1, e_at2, e_at3, e_at4, e_at5, e_at6, e_at7, e_at8, e_at9, e_atm, e_V, e_retV, e_unp, e_app, e_store, e_fzE, oS, rsO_some, Rs.bind_ok, Rs.bind_no, Rs.out_ok, Out.then_nx, Out.then_rt, Out.then_ct, Out.then_bk, fin_rt, fin_nx, List.getElem?_cons_zero, List.getElem?_cons_succ, List.set_cons_succ, List.set_cons_zero, List.length_cons, List.length_nil, Nat.reduceAdd, Nat.reduceLT, Nat.reduceLeDiff, Nat.reduceEqDiff, if_true, if_false, Bool.false_eq_true, Bool.not_true, Bool.not_false, and_self, true_and, and_true, List.map_cons, List.map_nil, Option.map_some, sh_int, sh_bool, sh_none, sh_tup, sh_lst, eqv_int, reduceIte, Option.bind_some, Option.bind_none, kitB_ll, kitB_lt, kitB_tt, kitB_tl, kitB_ii, tyD_list, tyD_int, Bool.true_and, Bool.false_and, Bool.and_true, Bool.and_false, Bool.or_true, Bool.true_or, Bool.false_or, Bool.or_false, Bool.and_self, Bool.or_self, e_cAK, List.append_nil, List.nil_append, List.cons_append, e_andB, e_orB, e_andR, e_orR, tyD_tuple, eqv_bool, eqv_none, tyD_bool, tyD_str, tyD_none, kitB_bb, kitB_nb, kitB_bi, kitB_ib, kitB_nl, kitB_nt, beq_self_eq_true, hPb, hix, p1, p2, List.length_append, List.length_map, if_pos hz]
    simp only [hb, lp_nx]
    rw [ih, List.append_assoc]
    rfl
theorem walk_ok (us : List (List Int)) (ts : List Int) (P : RV) (hPb : P.bor = P) (p h : List Int) (hP : ∀ (i : Nat) (s : Int), p[i]? = some s → gIx P (.d (.int i)) = .ok (.d (.int s))) (hL : gLen [P] = .ok (.d (.int p.length))) (g : goodM us h p) (hl : h.length + p.length ≤ 500) :
    F_walk [.d (encT us ts), P, .d (tupD h)] = .ok (.ol ((confsM h p).map tupD)) := by
  obtain ⟨e4', e⟩ := walk_loop us ts P (.d (tupD h)) hPb p hP p 0 [] h none rfl g (by simp; omega) (by omega)
  have hr := e_R1n (n := p.length) (by omega)
  rw [rng_nat, List.range_eq_range'] at hr
  simp only [List.nil_append, List.map_cons, List.map_nil] at e
  show (sSeq _ _ [some (.d (encT us ts)), some P, some (.d (tupD h)), none, none]).fin = _
  simp only [e_nil, e_seq, e_fz, e_bk, e_ct, e_ret, e_retN, e_drop, e_set, e_if, e_for, e_cC, e_c2, e_c1, e_cA, e_aN, e_aC, e_cB, e_asB, e_bNot, e_bAnd, e_bOr, e_vAnd, e_vOr, e_vNot, e_vIf, e_bYes, e_iL, e_iT, e_iLb, e_iR, e_gL1, e_gL2, e_gL3, e_gT, e_gLb1, e_gLb2, e_gLb3, e_gLb4, e_nb1, e_nb2, e_bor1, e_bor2, e_bor3, e_bor4, e_arg1, e_arg2, e_arg3, e_arg4, e_putd, e_puto, e_toD1, e_toD2, e_allD0, e_allD1, e_allD2, e_gTupl, e_gList, e_tgnm, e_tgtp, e_tg0, e_tg1, e_sq1, e_sq2, e_sq3, e_sq4, e_sq5, e_qv2, e_qv3, e_qv4, e_qv5, e_data1, e_data2, e_data3, e_okI, e_okB, e_i2, e_sub, e_mul, e_mod, e_div, e_pow, e_lt, e_le, e_gt, e_ge, e_neg, e_addI, e_addS, e_addT, e_addL1, e_addL2, e_addL3, e_addL4, e_addL5, e_addL6, e_addL7, e_addL8, e_addL9, e_eq, e_ne, e_in, e_notIn, e_inT, e_inT2, e_inL1, e_inL2, e_inL3, e_is, e_isNot, e_isN1, e_isN2, e_isN3, e_isN4, e_isN5, e_isN6, e_isN7, e_ixT, e_ixL, e_ixO, e_ixB, e_ixSc, e_lenT, e_lenL, e_lenO, e_lenB, e_lenSc, e_lenS, e_tupT, e_tupL, e_tupO, e_tupB, e_lisT, e_lisL, e_lisO, e_lisB, e_min2, e_max2, e_any, e_all, e_sum, e_sorted, e_rev, e_sl, e_oN, e_isi, e_lc, e_wipe0, e_wipe1, e_iA, e_iAb, e_gAq1, e_gAq2, e_gAq3, e_gAqb1, e_gAqb2, e_gAqb3, e_gAqb4, e_no, e_cCh, e_cChI, e_aug, e_decT, e_decF, e_cDispS, e_cDT, e_cDK, e_cDisp1, e_storeA, e_stR1, e_stR2, e_stR3, e_sd1, e_keyD1, e_keyD2, e_keyTD, e_intsD, e_intsD0, e_borT, e_borT2, e_borK, e_borK2, e_argT, e_argT2, e_argK, e_argK2, e_nbT, e_nbK, e_putT, e_putK, e_gAt1, e_gAt2, e_gAt3, e_gAt4, e_gGetDK, e_gGetDT, e_gIxD, e_gInD, e_gNotInD, e_cGet1, e_cGet2, e_dk1, e_dk2, e_dk3, e_dk4, e_dt1, e_dt2, e_del, atI_zero, e_at1, e_at2, e_at3, e_at4, e_at5, e_at6, e_at7, e_at8, e_at9, e_atm, e_V, e_retV, e_unp, e_app, e_store, e_fzE, oS, rsO_some, Rs.bind_ok, Rs.bind_no, Rs.out_ok, Out.then_nx, Out.then_rt, Out.then_ct, Out.then_bk, fin_rt, fin_nx, List.getElem?_cons_zero, List.getElem?_cons_succ, List.set_cons_succ, List.set_cons_zero, List.length_cons, List.length_nil, Nat.reduceAdd, Nat.reduceLT, Nat.reduceLeDiff, Nat.reduceEqDiff, if_true, if_false, Bool.false_eq_true, Bool.not_true, Bool.not_false, and_self, true_and, and_true, List.map_cons, List.map_nil, Option.map_some, sh_int, sh_bool, sh_none, sh_tup, sh_lst, eqv_int, reduceIte, Option.bind_some, Option.bind_none, kitB_ll, kitB_lt, kitB_tt, kitB_tl, kitB_ii, tyD_list, tyD_int, Bool.true_and, Bool.false_and, Bool.and_true, Bool.and_false, Bool.or_true, Bool.true_or, Bool.false_or, Bool.or_false, Bool.and_self, Bool.or_self, e_cAK, List.append_nil, List.nil_append, List.cons_append, e_andB, e_orB, e_andR, e_orR, tyD_tuple, eqv_bool, eqv_none, tyD_bool, tyD_str, tyD_none, kitB_bb, kitB_nb, kitB_bi, kitB_ib, kitB_nl, kitB_nt, beq_self_eq_true, hPb, hL, hr, e]
/-! ### sources -/
inductive Src where
  | x (i : Nat) | r (i : Nat) | c (n : Nat)
def Src.str : Src → Str
  | .x i => lx "x" i
  | .r i => lx "r" i
  | .c n => numS n
/-- what a source may be, with so many inputs -/
def Src.ok (n : Nat) : Src → Prop
  | .x i => i < n ∧ i < 100000
  | .r i => i < 8
  | .c k => k < 100000
def Src.val (ins regs : List Int) : Src → Int
  | .x i => ins.getD i 0
  | .r i => regs.getD i 0
  | .c n => n
theorem Src.strOk (s : Src) : PyData.strOk s.str = true := by
  cases s with
  | x i => exact lx_strOk let_x (by decide) i
  | r i => exact lx_strOk let_r (by decide) i
  | c n => exact num_strOk n
/-- a list of ints that is read -/
def Ls (a : RV) (xs : List Int) : Prop := a = .d (.list (xs.map .int)) ∨ a = .bl (xs.map .int)
theorem Ls.ix {a : RV} {xs : List Int} (h : Ls a xs) {i : Nat} (hi : i < xs.length) : gIx a.bor (.d (.int i)) = .ok (.d (.int (xs.getD i 0))) := by
  have e : atI (xs.map PyData.int) (i : Int) = some (.int (xs.getD i 0)) := by
    rw [atI_ints (d := xs.getD i 0)]
    simp [hi]
  rcases h with rfl | rfl <;> simp [e]
theorem decNe {a b : Str} (h : a ≠ b) : decide (a = b) = false := decide_eq_false h
theorem x_ne_r : (("x" : Str) = "r") = False := by simp; decide +kernel
theorem r_ne_x : (("r" : Str) = "x") = False := by simp; decide +kernel
theorem sh_str {s : Str} (h : PyData.strOk s = true) : SeqAt.shaped (.str s) = true := (Nice.str 0 h).shaped (by decide)
theorem digit_ne {d k : Nat} {c : Str} (h : Letter c k) (h1 : d ≤ 57) (h2 : 57 < k) : ((⟨#[d]⟩ : Str) = c) = False := by
  rw [h.eq]; simp; omega
theorem digit_ok {d : Nat} (h1 : d ≤ 57) : PyData.strOk ⟨#[d]⟩ = true := ok_of fun c hc => by simp at hc; omega
theorem letx_ok : PyData.strOk "x" = true := by decide +kernel
theorem letr_ok : PyData.strOk "r" = true := by decide +kernel
theorem lets_ok : PyData.strOk "s" = true := by decide +kernel
/-- the head's comparison -/
theorem head_x (i : Nat) (h : i < 100000) (c : Str) (hc : PyData.strOk c = true) : (gIx (.d (.str (lx "x" i))) (.d (.int 0))).bind (fun a => gEq a (.d (.str c))) = .ok (.d (.bool (decide (("x" : Str) = c)))) := by
  rw [lx_head let_x h]
  simp [sh_str letx_ok, sh_str hc]
theorem head_r (i : Nat) (h : i < 100000) (c : Str) (hc : PyData.strOk c = true) : (gIx (.d (.str (lx "r" i))) (.d (.int 0))).bind (fun a => gEq a (.d (.str c))) = .ok (.d (.bool (decide (("r" : Str) = c)))) := by
  rw [lx_head let_r h]
  simp [sh_str letr_ok, sh_str hc]
theorem head_c (n : Nat) (h : n < 100000) {c : Str} {k : Nat} (hl : Letter c k) (hk : 57 < k) (hc : PyData.strOk c = true) : (gIx (.d (.str (numS n))) (.d (.int 0))).bind (fun a => gEq a (.d (.str c))) = .ok (.d (.bool false)) := by
  obtain ⟨d, h1, h2, e⟩ := num_head h
  rw [e]
  simp [sh_str (digit_ok h2), sh_str hc, digit_ne hl h2 hk]
/-! ### instructions -/
inductive Op where
  | add | sub | mul
def Op.str : Op → Str
  | .add => "+"
  | .sub => "-"
  | .mul => "*"
def Op.ap (a b : Int) : Op → Int
  | .add => a + b
  | .sub => a - b
  | .mul => a * b
theorem op_ok (o : Op) : PyData.strOk o.str = true := by cases o <;> decide +kernel
theorem sgn_ok (b : Bool) : PyData.strOk (if b then "-" else "+") = true := by cases b <;> decide +kernel
theorem plus_ok : PyData.strOk "+" = true := by decide +kernel
theorem minus_ok : PyData.strOk "-" = true := by decide +kernel
theorem sub_ne_add : (("-" : Str) = "+") = False := by simp; decide +kernel
theorem add_ne_sub : (("+" : Str) = "-") = False := by simp; decide +kernel
theorem mul_ne_add : (("*" : Str) = "+") = False := by simp; decide +kernel
theorem mul_ne_sub : (("*" : Str) = "-") = False := by simp; decide +kernel
theorem star_ok : PyData.strOk "*" = true := by decide +kernel
structure Ins where
  reg : Nat
  neg : Bool
  op : Op
  l : Src
  r : Src
def Ins.sgn (i : Ins) : Str := if i.neg then "-" else "+"
def Ins.d (i : Ins) : PyData := .tuple [.int i.reg, .str i.sgn, .str i.op.str, .str i.l.str, .str i.r.str]
structure Ins.ok (n : Nat) (i : Ins) : Prop where
  reg : i.reg < 8
  l : i.l.ok n
  r : i.r.ok n
/-- what an instruction does -/
def Ins.do (m : Int) (ins regs : List Int) (i : Ins) : List Int :=
  let v := i.op.ap (i.l.val ins regs) (i.r.val ins regs)
  regs.set i.reg ((if i.neg then regs.getD i.reg 0 - v else regs.getD i.reg 0 + v) % m)
/-- contents below the modulus -/
structure Regs (m : Int) (xs : List Int) : Prop where
  all : ∀ x ∈ xs, 0 ≤ x ∧ x < m
theorem Regs.at {m : Int} {xs : List Int} (h : Regs m xs) (i : Nat) (hm : 0 < m) : 0 ≤ xs.getD i 0 ∧ xs.getD i 0 < m := by
  by_cases hi : i < xs.length
  · have : xs.getD i 0 = xs[i] := by simp [hi]
    rw [this]; exact h.all _ (List.getElem_mem hi)
  · have : xs.getD i 0 = 0 := by simp [hi]
    omega
theorem Src.bound {m : Int} {ins regs : List Int} (hm : 0 < m) (h1 : Regs m ins) (h2 : Regs m regs) {n : Nat} {s : Src} (ho : s.ok n) : (s.val ins regs).natAbs < 100000 + m.natAbs := by
  cases s with
  | x i => have := h1.at i hm; show (ins.getD i 0).natAbs < _; omega
  | r i => have := h2.at i hm; show (regs.getD i 0).natAbs < _; omega
  | c k => have : k < 100000 := ho; show ((k : Int)).natAbs < _; omega
theorem Ls.arg {a : RV} {xs : List Int} (h : Ls a xs) : a.bor.arg = a := by rcases h with rfl | rfl <;> rfl
theorem Ls.list {a : RV} {xs : List Int} (h : Ls a xs) : gListC [a.bor] = .ok (.ol (xs.map .int)) := by rcases h with rfl | rfl <;> rfl
def progD (m n : Int) (st out : PyData) : PyData := .tuple [.int m, .int n, st, out]
theorem ixN_nat {n i : Nat} (h : i < n) : ixN n (i : Int) = some i := by
  unfold ixN
  rw [if_pos (by omega), if_pos (by omega)]
  rfl
theorem map_set_int (xs : List Int) (i : Nat) (v : Int) : (xs.map PyData.int).set i (.int v) = (xs.set i v).map .int := by rw [List.map_set]
/-! ### drawn programs -/
inductive Opd where
  | x (i : Nat) | s (k : Nat) | c (v : Nat)
def Opd.str : Opd → Str
  | .x i => lx "x" i
  | .s k => lx "s" k
  | .c v => numS v
/-- n inputs, many steps before, the modulus m -/
def Opd.ok (n many m : Nat) : Opd → Prop
  | .x i => i < n
  | .s k => k < many
  | .c v => v < m
theorem Opd.strOk (o : Opd) : PyData.strOk o.str = true := by
  cases o with
  | x i => exact lx_strOk let_x (by decide) i
  | s k => exact lx_strOk let_s (by decide) k
  | c v => exact num_strOk v
theorem str_len1 {c : Str} {k : Nat} (h : Letter c k) {n : Nat} (hn : n < 100000) : c.length + (numS n).length ≤ 1000000 := by
  have := h.len; have := num_len hn; omega
theorem add_lx {c : Str} {k : Nat} (h : Letter c k) {n : Nat} (hn : n < 100000) : gAdd (.d (.str c)) (.d (.str (numS n))) = .ok (.d (.str (lx c n))) := by
  rw [e_addS, if_pos (str_len1 h hn)]
  rfl
/-! ### rows of digits -/
theorem cut_row (ds : List Int) (a b : Nat) (h : a ≤ b) (h2 : b ≤ ds.length) : gSl (.bl (ds.map .int)) (some (a : Int)) (some (b : Int)) = .ok (.ol (((ds.drop a).take (b - a)).map .int)) := by
  show Rs.ok (RV.ol (cutL (ds.map .int) (some (a : Int)) (some (b : Int)))) = _
  unfold cutL
  rw [HT.sIx_nat, HT.sIx_nat, List.length_map, Nat.min_eq_left h2, Nat.min_eq_left (show a ≤ ds.length by omega), ← List.map_drop, ← List.map_take]
/-- the signs -/
def opN : Nat → Op
  | 0 => .add
  | 1 => .sub
  | _ => .mul
theorem ops_ix (r : Nat) (h : r < 3) : gIx (.d (.str "+-*")) (.d (.int r)) = .ok (.d (.str (opN r).str)) := by
  have key : ∀ (r : Nat) (c : Nat) (s : Str), (("+-*" : Str).length ≤ 1000000) → atI ("+-*" : Str).cps.toList (r : Int) = some c → s = ⟨#[c]⟩ → gIx (.d (.str "+-*")) (.d (.int r)) = .ok (.d (.str s)) := fun r c s h1 h2 h3 => by
    rw [e_ixS, if_pos h1, h2, h3]; rfl
  match r, h with
  | 0, _ => exact key 0 43 _ (by decide +kernel) (by decide +kernel) (by decide +kernel)
  | 1, _ => exact key 1 45 _ (by decide +kernel) (by decide +kernel) (by decide +kernel)
  | 2, _ => exact key 2 42 _ (by decide +kernel) (by decide +kernel) (by decide +kernel)
theorem sgn_ix (r : Nat) (h : r < 2) : gIx (.d (.str "+-")) (.d (.int r)) = .ok (.d (.str (if decide (r = 1) then "-" else "+"))) := by
  have key : ∀ (r : Nat) (c : Nat) (s : Str), (("+-" : Str).length ≤ 1000000) → atI ("+-" : Str).cps.toList (r : Int) = some c → s = ⟨#[c]⟩ → gIx (.d (.str "+-")) (.d (.int r)) = .ok (.d (.str s)) := fun r c s h1 h2 h3 => by
    rw [e_ixS, if_pos h1, h2, h3]; rfl
  match r, h with
  | 0, _ => exact key 0 43 _ (by decide +kernel) (by decide +kernel) (by decide +kernel)
  | 1, _ => exact key 1 45 _ (by decide +kernel) (by decide +kernel) (by decide +kernel)
theorem take5 {l : List Nat} {a r0 r1 r2 r3 r4 : Nat} (h0 : l[a]? = some r0) (h1 : l[a + 1]? = some r1) (h2 : l[a + 2]? = some r2) (h3 : l[a + 3]? = some r3) (h4 : l[a + 4]? = some r4) : (l.drop a).take 5 = [r0, r1, r2, r3, r4] := by
  rw [drop_cons h0, drop_cons h1, drop_cons h2, drop_cons h3, drop_cons h4]; rfl
theorem take7 {l : List Nat} {a r0 r1 r2 r3 r4 r5 r6 : Nat} (h0 : l[a]? = some r0) (h1 : l[a + 1]? = some r1) (h2 : l[a + 2]? = some r2) (h3 : l[a + 3]? = some r3) (h4 : l[a + 4]? = some r4) (h5 : l[a + 5]? = some r5) (h6 : l[a + 6]? = some r6) : (l.drop a).take 7 = [r0, r1, r2, r3, r4, r5, r6] := by
  rw [drop_cons h0, drop_cons h1, drop_cons h2, drop_cons h3, drop_cons h4, drop_cons h5, drop_cons h6]; rfl
theorem cut_rowN (ds : List Nat) (a b : Nat) (h : a ≤ b) (h2 : b ≤ ds.length) : gSl (.bl (ds.map natI)) (some (a : Int)) (some (b : Int)) = .ok (.ol (((ds.drop a).take (b - a)).map natI)) := by
  show Rs.ok (RV.ol (cutL (ds.map natI) (some (a : Int)) (some (b : Int)))) = _
  unfold cutL
  rw [HT.sIx_nat, HT.sIx_nat, List.length_map, Nat.min_eq_left h2, Nat.min_eq_left (show a ≤ ds.length by omega), ← List.map_drop, ← List.map_take]
theorem rep_one (n : Nat) (x : Nat) : (List.replicate n [natI x]).flatten = (List.replicate n x).map natI := by
  induction n with
  | zero => rfl
  | succ n ih => rw [List.replicate_succ, List.flatten_cons, ih, List.replicate_succ, List.map_cons]; rfl
/-- a step of a program -/
structure Stp where
  op : Op
  l : Opd
  r : Opd
def Stp.d (s : Stp) : PyData := .tuple [.str s.op.str, .str s.l.str, .str s.r.str]
theorem Stp.nice (s : Stp) : Nice 1 s.d := Nice.tup fun d hd => by
  simp at hd
  rcases hd with rfl | rfl | rfl
  · exact Nice.str 0 (op_ok _)
  · exact Nice.str 0 (Opd.strOk _)
  · exact Nice.str 0 (Opd.strOk _)
theorem stps_nice (ss : List Stp) : Nice 2 (.list (ss.map Stp.d)) := Nice.lst fun d hd => by
  obtain ⟨s, _, rfl⟩ := List.mem_map.mp hd
  exact s.nice
/-- steps, each with operands that are there -/
def StpsOk (m n : Nat) (ss : List Stp) : Prop := ∀ (k : Nat) (s : Stp), ss[k]? = some s → s.l.ok n k m ∧ s.r.ok n k m
theorem Opd.mono {n a b m : Nat} (h : a ≤ b) : ∀ {o : Opd}, o.ok n a m → o.ok n b m
  | .x _, h' => h'
  | .s _, h' => Nat.lt_of_lt_of_le h' h
  | .c _, h' => h'
/-- the outputs: ascending places of steps, the last step among them -/
structure OutsOk (k : Nat) (os : List Nat) : Prop where
  up : os.Pairwise (· < ·)
  hi : ∀ o ∈ os, o < k
  last : k - 1 ∈ os
theorem nat_any (os : List Nat) (k : Nat) : ((os.map natI).any fun z => PyData.eqv z (.int k)) = decide (k ∈ os) := by
  rw [List.any_map]
  induction os with
  | nil => rfl
  | cons o os ih =>
    rw [List.any_cons, ih]
    simp only [Function.comp, natI, eqv_int, List.mem_cons]
    by_cases h : k = o
    · simp [h]
    · by_cases h2 : k ∈ os
      · simp [h2]
      · simp [h2, h]; omega
theorem sh_natsL (os : List Nat) : SeqAt.shaped (.list (os.map natI)) = true := by
  have := sh_lst (os.map fun n : Nat => (n : Int))
  rwa [List.map_map] at this
theorem sh_natsT (os : List Nat) : SeqAt.shaped (.tuple (os.map natI)) = true := by
  have := sh_tup (os.map fun n : Nat => (n : Int))
  rwa [List.map_map] at this
theorem StpsOk.snoc {m n : Nat} {ss : List Stp} (h : StpsOk m n ss) {s : Stp} (hl : s.l.ok n ss.length m) (hr : s.r.ok n ss.length m) : StpsOk m n (ss ++ [s]) := by
  intro k s' hk
  rcases Nat.lt_trichotomy k ss.length with h' | h' | h'
  · exact h k s' (by rwa [List.getElem?_append_left h'] at hk)
  · subst h'
    rw [List.getElem?_append_right (Nat.le_refl _), Nat.sub_self] at hk
    cases hk
    exact ⟨hl, hr⟩
  · rw [List.getElem?_eq_none (by simp; omega)] at hk
    cases hk
theorem eqv3 (a b c a' b' c' : Str) : PyData.eqv (.tuple [.str a, .str b, .str c]) (.tuple [.str a', .str b', .str c']) = decide (a = a' ∧ b = b' ∧ c = c') := by
  simp only [PyData.eqv, PyData.eqvAll, Bool.and_true]
  by_cases h1 : a = a' <;> by_cases h2 : b = b' <;> by_cases h3 : c = c' <;> simp [h1, h2, h3]
/-! ### values of steps -/
def Opd.val (ins vs : List Int) : Opd → Int
  | .x i => ins.getD i 0
  | .s i => vs.getD i 0
  | .c n => n
theorem x_ne_s : (("x" : Str) = "s") = False := by simp; decide +kernel
theorem s_ne_x : (("s" : Str) = "x") = False := by simp; decide +kernel
theorem head_s (i : Nat) (h : i < 100000) (c : Str) (hc : PyData.strOk c = true) : (gIx (.d (.str (lx "s" i))) (.d (.int 0))).bind (fun a => gEq a (.d (.str c))) = .ok (.d (.bool (decide (("s" : Str) = c)))) := by
  rw [lx_head let_s h]
  simp [sh_str lets_ok, sh_str hc]
theorem Opd.bound {m : Int} {n k mm : Nat} {ins vs : List Int} (hm : 0 < m) (h1 : Regs m ins) (h2 : Regs m vs) {o : Opd} (ho : o.ok n k mm) (hmm : mm ≤ 100000) : (o.val ins vs).natAbs < m.natAbs + 100000 := by
  cases o with
  | x i => have := h1.at i hm; show (ins.getD i 0).natAbs < _; omega
  | s i => have := h2.at i hm; show (vs.getD i 0).natAbs < _; omega
  | c c => have : c < mm := ho; show ((c : Int)).natAbs < _; omega
def Stp.val (m : Int) (ins vs : List Int) (s : Stp) : Int := s.op.ap (s.l.val ins vs) (s.r.val ins vs) % m
def valsM (m : Int) (ins : List Int) (ss : List Stp) : List Int := ss.foldl (fun vs s => vs ++ [s.val m ins vs]) []
theorem Nice.up {k l : Nat} {d : PyData} (h : Nice k d) (hl : k ≤ l) : Nice l d := ⟨h.1, Nat.le_trans h.2 hl⟩
/-! ### operands told apart -/
theorem num_inj {n k : Nat} (hn : n < 100000) (hk : k < 100000) (e : numS n = numS k) : n = k := by
  have h1 := int_ok hn
  rw [e, int_ok hk] at h1
  injection h1 with h1
  injection h1 with h1
  injection h1 with h1
  omega
theorem lx_inj {c : Str} {a : Nat} (h : Letter c a) {n k : Nat} (hn : n < 100000) (hk : k < 100000) (e : lx c n = lx c k) : n = k := by
  have h1 := lx_tail h hn
  rw [e, lx_tail h hk] at h1
  injection h1 with h1
  injection h1 with h1
  injection h1 with h1
  exact num_inj hn hk h1.symm
theorem lx_ne {c d : Str} {a b : Nat} (h : Letter c a) (k : Letter d b) (ne : a ≠ b) (n m : Nat) : lx c n ≠ lx d m := fun e => by
  have h1 := lx_l h n
  rw [e, lx_l k m] at h1
  injection h1 with h1
  exact ne h1.symm
theorem num_ne {d : Str} {b : Nat} (k : Letter d b) (hb : 57 < b) {n m : Nat} (hn : n < 100000) (hm : m < 100000) : numS n ≠ lx d m := fun e => by
  obtain ⟨x, h1, h2, h3⟩ := num_head hn
  rw [e, lx_head k hm] at h3
  injection h3 with h3
  injection h3 with h3
  injection h3 with h3
  have := digit_ne k h2 hb
  rw [h3] at this
  exact (this ▸ rfl : False)
/-- is it step k -/
def Opd.isS (k : Nat) : Opd → Bool
  | .s j => decide (j = k)
  | _ => false
def Opd.small : Opd → Prop
  | .x i => i < 100000
  | .s k => k < 100000
  | .c v => v < 100000
theorem Opd.ok.small {n many m : Nat} (hn : n ≤ 100000) (h2 : many ≤ 100000) (h3 : m ≤ 100000) {o : Opd} (h : o.ok n many m) : o.small := by
  cases o with
  | x i => exact Nat.lt_of_lt_of_le h hn
  | s k => exact Nat.lt_of_lt_of_le h h2
  | c v => exact Nat.lt_of_lt_of_le h h3
theorem opd_eq {o : Opd} (ho : o.small) {k : Nat} (hk : k < 100000) : decide (o.str = lx "s" k) = o.isS k := by
  cases o with
  | x i => exact decide_eq_false (lx_ne let_x let_s (by decide) i k)
  | s j =>
    show decide (lx "s" j = lx "s" k) = decide (j = k)
    by_cases c : j = k
    · subst c; rw [decide_eq_true rfl, decide_eq_true rfl]
    · rw [decide_eq_false c, decide_eq_false fun z => c (lx_inj let_s ho hk z)]
  | c v => exact decide_eq_false (num_ne let_s (by decide) ho hk)
/-- is it a step -/
def Opd.step : Opd → Option Nat
  | .s j => some j
  | _ => none
theorem opd_head {o : Opd} (ho : o.small) : ∃ h : Str, gIx (.d (.str o.str)) (.d (.int 0)) = .ok (.d (.str h)) ∧ PyData.strOk h = true ∧ decide (h = "s") = o.step.isSome := by
  cases o with
  | x i => exact ⟨_, lx_head let_x ho, letx_ok, decide_eq_false (by rw [x_ne_s]; exact id)⟩
  | s k => exact ⟨_, lx_head let_s ho, lets_ok, decide_eq_true rfl⟩
  | c v =>
    obtain ⟨x, h1, h2, h3⟩ := num_head ho
    exact ⟨_, h3, digit_ok h2, decide_eq_false (by rw [digit_ne let_s h2 (by decide)]; exact id)⟩
/-! ### the task of a program -/
def Stp.used (s : Stp) : List Nat := [s.l, s.r].filterMap Opd.step
def Stp.row (n : Nat) (s : Stp) : List Int := ((List.range n).filter fun k => s.l.isS k || s.r.isS k).map fun k : Nat => (k : Int)
theorem used_mem (s : Stp) (k : Nat) : k ∈ s.used ↔ (s.l.isS k || s.r.isS k) = true := by
  have h : ∀ o : Opd, o.step = some k ↔ o.isS k = true := fun o => by
    cases o with
    | s j => show some j = some k ↔ decide (j = k) = true; simp
    | x i => exact ⟨fun z => (by cases z), fun z => (by cases z)⟩
    | c i => exact ⟨fun z => (by cases z), fun z => (by cases z)⟩
  unfold Stp.used
  rw [List.mem_filterMap, Bool.or_eq_true, ← h, ← h]
  constructor
  · rintro ⟨o, ho, e⟩
    rcases List.mem_cons.mp ho with rfl | ho
    · exact .inl e
    · rw [List.mem_singleton.mp ho] at e; exact .inr e
  · rintro (e | e)
    · exact ⟨_, by simp, e⟩
    · exact ⟨_, by simp, e⟩
theorem used_row {n m many : Nat} {s : Stp} (hl : s.l.ok n many m) (hr : s.r.ok n many m) {N : Nat} (hN : many ≤ N) : isort (onceI (s.used.map fun k : Nat => (k : Int))) = s.row N := by
  refine lt_uniq (once_sorted _) ?_ fun j => ?_
  · unfold Stp.row
    rw [List.pairwise_map]
    exact List.Pairwise.filter _ (List.Pairwise.imp (fun h => by omega) List.pairwise_lt_range)
  · rw [(isort_perm _).mem_iff, once_mem]
    unfold Stp.row
    rw [List.mem_map, List.mem_map]
    have lt : ∀ k, (s.l.isS k || s.r.isS k) = true → k < N := fun k h => by
      have key : ∀ o : Opd, o.ok n many m → o.isS k = true → k < N := fun o h1 h2 => by
        cases o with
        | s j =>
          have e : j = k := of_decide_eq_true h2
          subst e
          exact Nat.lt_of_lt_of_le h1 hN
        | x i => cases h2
        | c i => cases h2
      rcases Bool.or_eq_true _ _ |>.mp h with z | z
      · exact key _ hl z
      · exact key _ hr z
    constructor
    · rintro ⟨k, hk, e⟩
      have := (used_mem s k).mp hk
      exact ⟨k, List.mem_filter.mpr ⟨List.mem_range.mpr (lt k this), this⟩, e⟩
    · rintro ⟨k, hk, e⟩
      exact ⟨k, (used_mem s k).mpr (List.mem_filter.mp hk).2, e⟩
theorem used_len (s : Stp) : s.used.length ≤ 2 := List.length_filterMap_le _ _
theorem filterMap_two (p : Opd → Option Nat) (xs : List Opd) : (xs.filter fun o => (p o).isSome).map (fun o => natI ((p o).getD 0)) = (xs.filterMap p).map natI := by
  induction xs with
  | nil => rfl
  | cons x xs ih =>
    cases h : p x with
    | none => rw [List.filter_cons_of_neg (by rw [h]; simp), ih, List.filterMap_cons_none h]
    | some k => rw [List.filter_cons_of_pos (by rw [h]; rfl), List.map_cons, ih, List.filterMap_cons_some h, List.map_cons, h]; rfl
theorem lc_used (s : Stp) (hl : s.l.small) (hr : s.r.small) (e0 e1 e2 e3 e4 e5 : Option RV) : lcF (.nm 6) (cB (c2 gEq (c2 gIx (cV 6) (cC (.int 0))) (cC (.str "s")))) (cA gInt (aC (cSl (cV 6) (oS (cC (.int 1))) oN) aN)) [e0, e1, e2, e3, e4, e5, none] [.str s.l.str, .str s.r.str] = .ok (s.used.map natI) := by
  have sm : ∀ o ∈ [s.l, s.r], o.small := fun o ho => by
    rcases List.mem_cons.mp ho with rfl | ho
    · exact hl
    · rw [List.mem_singleton.mp ho]; exact hr
  have e : [PyData.str s.l.str, .str s.r.str] = [s.l, s.r].map fun o => .str o.str := rfl
  rw [e, lcF_map (fun o : Opd => PyData.str o.str) (fun o => o.step.isSome) (fun o => natI (o.step.getD 0)) [s.l, s.r] fun o ho => ⟨[e0, e1, e2, e3, e4, e5, some (.d (.str o.str))], rfl, by
    obtain ⟨h, h1, h2, h3⟩ := opd_head (sm o ho)
    simp only [e_nil, e_seq, e_fz, e_bk, e_ct, e_ret, e_retN, e_drop, e_set, e_if, e_for, e_cC, e_c2, e_c1, e_cA, e_aN, e_aC, e_cB, e_asB, e_bNot, e_bAnd, e_bOr, e_vAnd, e_vOr, e_vNot, e_vIf, e_bYes, e_iL, e_iT, e_iLb, e_iR, e_gL1, e_gL2, e_gL3, e_gT, e_gLb1, e_gLb2, e_gLb3, e_gLb4, e_nb1, e_nb2, e_bor1, e_bor2, e_bor3, e_bor4, e_arg1, e_arg2, e_arg3, e_arg4, e_putd, e_puto, e_toD1, e_toD2, e_allD0, e_allD1, e_allD2, e_gTupl, e_gList, e_tgnm, e_tgtp, e_tg0, e_tg1, e_sq1, e_sq2, e_sq3, e_sq4, e_sq5, e_qv2, e_qv3, e_qv4, e_qv5, e_data1, e_data2, e_data3, e_okI, e_okB, e_i2, e_sub, e_mul, e_mod, e_div, e_pow, e_lt, e_le, e_gt, e_ge, e_neg, e_addI, e_addS, e_addT, e_addL1, e_addL2, e_addL3, e_addL4, e_addL5, e_addL6, e_addL7, e_addL8, e_addL9, e_eq, e_ne, e_in, e_notIn, e_inT, e_inT2, e_inL1, e_inL2, e_inL3, e_is, e_isNot, e_isN1, e_isN2, e_isN3, e_isN4, e_isN5, e_isN6, e_isN7, e_ixT, e_ixL, e_ixO, e_ixB, e_ixSc, e_lenT, e_lenL, e_lenO, e_lenB, e_lenSc, e_lenS, e_tupT, e_tupL, e_tupO, e_tupB, e_lisT, e_lisL, e_lisO, e_lisB, e_min2, e_max2, e_any, e_all, e_sum, e_sorted, e_rev, e_sl, e_oN, e_isi, e_lc, e_wipe0, e_wipe1, e_iA, e_iAb, e_gAq1, e_gAq2, e_gAq3, e_gAqb1, e_gAqb2, e_gAqb3, e_gAqb4, e_no, e_cCh, e_cChI, e_aug, e_decT, e_decF, e_cDispS, e_cDT, e_cDK, e_cDisp1, e_storeA, e_stR1, e_stR2, e_stR3, e_sd1, e_keyD1, e_keyD2, e_keyTD, e_intsD, e_intsD0, e_borT, e_borT2, e_borK, e_borK2, e_argT, e_argT2, e_argK, e_argK2, e_nbT, e_nbK, e_putT, e_putK, e_gAt1, e_gAt2, e_gAt3, e_gAt4, e_gGetDK, e_gGetDT, e_gIxD, e_gInD, e_gNotInD, e_cGet1, e_cGet2, e_dk1, e_dk2, e_dk3, e_dk4, e_dt1, e_dt2, e_del, atI_zero, e_at1, e_at2, e_at3, e_at4, e_at5, e_at6, e_at7, e_at8, e_at9, e_atm, e_V, e_retV, e_unp, e_app, e_store, e_fzE, oS, rsO_some, Rs.bind_ok, Rs.bind_no, Rs.out_ok, Out.then_nx, Out.then_rt, Out.then_ct, Out.then_bk, fin_rt, fin_nx, List.getElem?_cons_zero, List.getElem?_cons_succ, List.set_cons_succ, List.set_cons_zero, List.length_cons, List.length_nil, Nat.reduceAdd, Nat.reduceLT, Nat.reduceLeDiff, Nat.reduceEqDiff, if_true, if_false, Bool.false_eq_true, Bool.not_true, Bool.not_false, and_self, true_and, and_true, List.map_cons, List.map_nil, Option.map_some, sh_int, sh_bool, sh_none, sh_tup, sh_lst, eqv_int, reduceIte, Option.bind_some, Option.bind_none, kitB_ll, kitB_lt, kitB_tt, kitB_tl, kitB_ii, tyD_list, tyD_int, Bool.true_and, Bool.false_and, Bool.and_true, Bool.and_false, Bool.or_true, Bool.true_or, Bool.false_or, Bool.or_false, Bool.and_self, Bool.or_self, e_cAK, List.append_nil, List.nil_append, List.cons_append, e_andB, e_orB, e_andR, e_orR, tyD_tuple, eqv_bool, eqv_none, tyD_bool, tyD_str, tyD_none, kitB_bb, kitB_nb, kitB_bi, kitB_ib, kitB_nl, kitB_nt, beq_self_eq_true, h1, sh_str h2, sh_str lets_ok, eqv_str, h3], fun hs => by
    have ho := sm o ho
    cases o with
    | s k =>
      refine ⟨.d (.int (k : Int)), ?_, rfl⟩
      have h1 := lx_tail let_s (n := k) ho
      have h1 : gSl (.d (.str (Opd.s k).str)) (some 1) none = _ := h1
      have h2 := int_ok (n := k) ho
      generalize (Opd.s k).str = S at *
      generalize numS k = M at *
      simp only [e_nil, e_seq, e_fz, e_bk, e_ct, e_ret, e_retN, e_drop, e_set, e_if, e_for, e_cC, e_c2, e_c1, e_cA, e_aN, e_aC, e_cB, e_asB, e_bNot, e_bAnd, e_bOr, e_vAnd, e_vOr, e_vNot, e_vIf, e_bYes, e_iL, e_iT, e_iLb, e_iR, e_gL1, e_gL2, e_gL3, e_gT, e_gLb1, e_gLb2, e_gLb3, e_gLb4, e_nb1, e_nb2, e_bor1, e_bor2, e_bor3, e_bor4, e_arg1, e_arg2, e_arg3, e_arg4, e_putd, e_puto, e_toD1, e_toD2, e_allD0, e_allD1, e_allD2, e_gTupl, e_gList, e_tgnm, e_tgtp, e_tg0, e_tg1, e_sq1, e_sq2, e_sq3, e_sq4, e_sq5, e_qv2, e_qv3, e_qv4, e_qv5, e_data1, e_data2, e_data3, e_okI, e_okB, e_i2, e_sub, e_mul, e_mod, e_div, e_pow, e_lt, e_le, e_gt, e_ge, e_neg, e_addI, e_addS, e_addT, e_addL1, e_addL2, e_addL3, e_addL4, e_addL5, e_addL6, e_addL7, e_addL8, e_addL9, e_eq, e_ne, e_in, e_notIn, e_inT, e_inT2, e_inL1, e_inL2, e_inL3, e_is, e_isNot, e_isN1, e_isN2, e_isN3, e_isN4, e_isN5, e_isN6, e_isN7, e_ixT, e_ixL, e_ixO, e_ixB, e_ixSc, e_lenT, e_lenL, e_lenO, e_lenB, e_lenSc, e_lenS, e_tupT, e_tupL, e_tupO, e_tupB, e_lisT, e_lisL, e_lisO, e_lisB, e_min2, e_max2, e_any, e_all, e_sum, e_sorted, e_rev, e_sl, e_oN, e_isi, e_lc, e_wipe0, e_wipe1, e_iA, e_iAb, e_gAq1, e_gAq2, e_gAq3, e_gAqb1, e_gAqb2, e_gAqb3, e_gAqb4, e_no, e_cCh, e_cChI, e_aug, e_decT, e_decF, e_cDispS, e_cDT, e_cDK, e_cDisp1, e_storeA, e_stR1, e_stR2, e_stR3, e_sd1, e_keyD1, e_keyD2, e_keyTD, e_intsD, e_intsD0, e_borT, e_borT2, e_borK, e_borK2, e_argT, e_argT2, e_argK, e_argK2, e_nbT, e_nbK, e_putT, e_putK, e_gAt1, e_gAt2, e_gAt3, e_gAt4, e_gGetDK, e_gGetDT, e_gIxD, e_gInD, e_gNotInD, e_cGet1, e_cGet2, e_dk1, e_dk2, e_dk3, e_dk4, e_dt1, e_dt2, e_del, atI_zero, e_at1, e_at2, e_at3, e_at4, e_at5, e_at6, e_at7, e_at8, e_at9, e_atm, e_V, e_retV, e_unp, e_app, e_store, e_fzE, oS, rsO_some, Rs.bind_ok, Rs.bind_no, Rs.out_ok, Out.then_nx, Out.then_rt, Out.then_ct, Out.then_bk, fin_rt, fin_nx, List.getElem?_cons_zero, List.getElem?_cons_succ, List.set_cons_succ, List.set_cons_zero, List.length_cons, List.length_nil, Nat.reduceAdd, Nat.reduceLT, Nat.reduceLeDiff, Nat.reduceEqDiff, if_true, if_false, Bool.false_eq_true, Bool.not_true, Bool.not_false, and_self, true_and, and_true, List.map_cons, List.map_nil, Option.map_some, sh_int, sh_bool, sh_none, sh_tup, sh_lst, eqv_int, reduceIte, Option.bind_some, Option.bind_none, kitB_ll, kitB_lt, kitB_tt, kitB_tl, kitB_ii, tyD_list, tyD_int, Bool.true_and, Bool.false_and, Bool.and_true, Bool.and_false, Bool.or_true, Bool.true_or, Bool.false_or, Bool.or_false, Bool.and_self, Bool.or_self, e_cAK, List.append_nil, List.nil_append, List.cons_append, e_andB, e_orB, e_andR, e_orR, tyD_tuple, eqv_bool, eqv_none, tyD_bool, tyD_str, tyD_none, kitB_bb, kitB_nb, kitB_bi, kitB_ib, kitB_nl, kitB_nt, beq_self_eq_true, h1, h2]
    | x i => cases hs
    | c i => cases hs⟩]
  exact congrArg Rs.ok (filterMap_two Opd.step [s.l, s.r])
theorem task_of_ok (m n : Nat) (ss : List Stp) (os : List Nat) (hm : m ≤ 1000) (hn : n ≤ 6) (hs : StpsOk m n ss) (hl : ss.length ≤ 8) : F_task_of [.d (progD m n (.tuple (ss.map Stp.d)) (.tuple (os.map natI)))] = .ok (.d (.tuple [.tuple (ss.map fun s => .tuple ((s.row ss.length).map .int)), .tuple (os.map natI)])) := by
  have h2 : gIx (.d (progD m n (.tuple (ss.map Stp.d)) (.tuple (os.map natI)))) (.d (.int 2)) = .ok (.d (.tuple (ss.map Stp.d))) := rfl
  have h3 : gIx (.d (progD m n (.tuple (ss.map Stp.d)) (.tuple (os.map natI)))) (.d (.int 3)) = .ok (.d (.tuple (os.map natI))) := rfl
  have hi : gAq (.d (.tuple (ss.map Stp.d))) = .ok (ss.map Stp.d) := rfl
  obtain ⟨env', e1, j2, j3, j4, j5, j6, rfl, _⟩ := loopF_ex (tg := .tp [2, 3, 4]) (f := L0_task_of) (fun i env => ∃ j2 j3 j4 j5 j6, env = [some (.d (progD m n (.tuple (ss.map Stp.d)) (.tuple (os.map natI)))), some (.ol ((ss.take i).map fun s => .tuple ((s.row ss.length).map .int))), j2, j3, j4, j5, j6] ∧ j6 = none) Stp.d ss [some (.d (progD m n (.tuple (ss.map Stp.d)) (.tuple (os.map natI)))), some (.ol []), none, none, none, none, none] (by
    rintro i env s hx ⟨j2, j3, j4, j5, j6, rfl, rfl⟩
    obtain ⟨hi, _⟩ := List.getElem?_eq_some_iff.mp hx
    obtain ⟨hsl, hsr⟩ := hs i s hx
    have sl := Opd.ok.small (by omega) (by omega) (by omega) hsl
    have sr := Opd.ok.small (by omega) (by omega) (by omega) hsr
    have hlc := fun e0 e1 e2 e3 e4 e5 => lc_used s sl sr e0 e1 e2 e3 e4 e5
    have hrow := used_row hsl hsr (N := ss.length) (by omega)
    have hul := used_len s
    have hz : (s.used.map fun k : Nat => (k : Int)).length ≤ 60 := by rw [List.length_map]; omega
    have hints : intsD (s.used.map natI) = some (s.used.map fun k : Nat => (k : Int)) := by
      have := intsD_map (s.used.map fun k : Nat => (k : Int))
      rw [List.map_map] at this
      exact this
    have htk : (ss.take (i + 1)).map (fun s => PyData.tuple ((s.row ss.length).map .int)) = (ss.take i).map (fun s => PyData.tuple ((s.row ss.length).map .int)) ++ [.tuple ((s.row ss.length).map .int)] := by
      rw [List.take_add_one, hx, List.map_append]
      rfl
    have hza : ((ss.take i).map (fun s => PyData.tuple ((s.row ss.length).map .int))).length ≤ 1000000 := by rw [List.length_map, List.length_take]; omega
    have hzr : ((s.row ss.length).map PyData.int).length ≤ 1000000 := by
      have : (s.row ss.length).length ≤ ss.length := by
        unfold Stp.row
        rw [List.length_map]
        exact Nat.le_trans (List.length_filter_le _ _) (by simp)
      rw [List.length_map]; omega
    refine ⟨[some (.d (progD m n (.tuple (ss.map Stp.d)) (.tuple (os.map natI)))), some (.ol ((ss.take i).map fun s => .tuple ((s.row ss.length).map .int))), some (.d (.str s.op.str)), some (.d (.str s.l.str)), some (.d (.str s.r.str)), j5, none], rfl, ?_⟩
    generalize hX : L0_task_of _ = X
    unfold L0_task_of at hX
    rw [htk]
    generalize (ss.take i).map (fun s => PyData.tuple ((s.row ss.length).map .int)) = AA at *
    generalize progD m n (.tuple (ss.map Stp.d)) (.tuple (os.map natI)) = PP at *
    simp only [e_nil, e_seq, e_fz, e_bk, e_ct, e_ret, e_retN, e_drop, e_set, e_if, e_for, e_cC, e_c2, e_c1, e_cA, e_aN, e_aC, e_cB, e_asB, e_bNot, e_bAnd, e_bOr, e_vAnd, e_vOr, e_vNot, e_vIf, e_bYes, e_iL, e_iT, e_iLb, e_iR, e_gL1, e_gL2, e_gL3, e_gT, e_gLb1, e_gLb2, e_gLb3, e_gLb4, e_nb1, e_nb2, e_bor1, e_bor2, e_bor3, e_bor4, e_arg1, e_arg2, e_arg3, e_arg4, e_putd, e_puto, e_toD1, e_toD2, e_allD0, e_allD1, e_allD2, e_gTupl, e_gList, e_tgnm, e_tgtp, e_tg0, e_tg1, e_sq1, e_sq2, e_sq3, e_sq4, e_sq5, e_qv2, e_qv3, e_qv4, e_qv5, e_data1, e_data2, e_data3, e_okI, e_okB, e_i2, e_sub, e_mul, e_mod, e_div, e_pow, e_lt, e_le, e_gt, e_ge, e_neg, e_addI, e_addS, e_addT, e_addL1, e_addL2, e_addL3, e_addL4, e_addL5, e_addL6, e_addL7, e_addL8, e_addL9, e_eq, e_ne, e_in, e_notIn, e_inT, e_inT2, e_inL1, e_inL2, e_inL3, e_is, e_isNot, e_isN1, e_isN2, e_isN3, e_isN4, e_isN5, e_isN6, e_isN7, e_ixT, e_ixL, e_ixO, e_ixB, e_ixSc, e_lenT, e_lenL, e_lenO, e_lenB, e_lenSc, e_lenS, e_tupT, e_tupL, e_tupO, e_tupB, e_lisT, e_lisL, e_lisO, e_lisB, e_min2, e_max2, e_any, e_all, e_sum, e_sorted, e_rev, e_sl, e_oN, e_isi, e_lc, e_wipe0, e_wipe1, e_iA, e_iAb, e_gAq1, e_gAq2, e_gAq3, e_gAqb1, e_gAqb2, e_gAqb3, e_gAqb4, e_no, e_cCh, e_cChI, e_aug, e_decT, e_decF, e_cDispS, e_cDT, e_cDK, e_cDisp1, e_storeA, e_stR1, e_stR2, e_stR3, e_sd1, e_keyD1, e_keyD2, e_keyTD, e_intsD, e_intsD0, e_borT, e_borT2, e_borK, e_borK2, e_argT, e_argT2, e_argK, e_argK2, e_nbT, e_nbK, e_putT, e_putK, e_gAt1, e_gAt2, e_gAt3, e_gAt4, e_gGetDK, e_gGetDT, e_gIxD, e_gInD, e_gNotInD, e_cGet1, e_cGet2, e_dk1, e_dk2, e_dk3, e_dk4, e_dt1, e_dt2, e_del, atI_zero, e_at1, e_at2, e_at3, e_at4, e_at5, e_at6, e_at7, e_at8, e_at9, e_atm, e_V, e_retV, e_unp, e_app, e_store, e_fzE, oS, rsO_some, Rs.bind_ok, Rs.bind_no, Rs.out_ok, Out.then_nx, Out.then_rt, Out.then_ct, Out.then_bk, fin_rt, fin_nx, List.getElem?_cons_zero, List.getElem?_cons_succ, List.set_cons_succ, List.set_cons_zero, List.length_cons, List.length_nil, Nat.reduceAdd, Nat.reduceLT, Nat.reduceLeDiff, Nat.reduceEqDiff, if_true, if_false, Bool.false_eq_true, Bool.not_true, Bool.not_false, and_self, true_and, and_true, List.map_cons, List.map_nil, Option.map_some, sh_int, sh_bool, sh_none, sh_tup, sh_lst, eqv_int, reduceIte, Option.bind_some, Option.bind_none, kitB_ll, kitB_lt, kitB_tt, kitB_tl, kitB_ii, tyD_list, tyD_int, Bool.true_and, Bool.false_and, Bool.and_true, Bool.and_false, Bool.or_true, Bool.true_or, Bool.false_or, Bool.or_false, Bool.and_self, Bool.or_self, e_cAK, List.append_nil, List.nil_append, List.cons_append, e_andB, e_orB, e_andR, e_orR, tyD_tuple, eqv_bool, eqv_none, tyD_bool, tyD_str, tyD_none, kitB_bb, kitB_nb, kitB_bi, kitB_ib, kitB_nl, kitB_nt, beq_self_eq_true, hlc, e_sortSet, hints, if_pos hz, hrow, if_pos hzr, if_pos hza] at hX
    subst hX
    exact ⟨_, .inl rfl, _, _, _, _, _, rfl, rfl⟩) ⟨none, none, none, none, none, rfl, rfl⟩
  rw [List.take_length] at e1
  show (B_task_of [some (.d (progD m n (.tuple (ss.map Stp.d)) (.tuple (os.map natI)))), none, none, none, none, none, none]).fin = _
  have hza : (ss.map (fun s => PyData.tuple ((s.row ss.length).map .int))).length ≤ 1000000 := by rw [List.length_map]; omega
  unfold B_task_of
  generalize ss.map (fun s => PyData.tuple ((s.row ss.length).map .int)) = AA at *
  generalize progD m n (.tuple (ss.map Stp.d)) (.tuple (os.map natI)) = PP at *
  simp only [e_nil, e_seq, e_fz, e_bk, e_ct, e_ret, e_retN, e_drop, e_set, e_if, e_for, e_cC, e_c2, e_c1, e_cA, e_aN, e_aC, e_cB, e_asB, e_bNot, e_bAnd, e_bOr, e_vAnd, e_vOr, e_vNot, e_vIf, e_bYes, e_iL, e_iT, e_iLb, e_iR, e_gL1, e_gL2, e_gL3, e_gT, e_gLb1, e_gLb2, e_gLb3, e_gLb4, e_nb1, e_nb2, e_bor1, e_bor2, e_bor3, e_bor4, e_arg1, e_arg2, e_arg3, e_arg4, e_putd, e_puto, e_toD1, e_toD2, e_allD0, e_allD1, e_allD2, e_gTupl, e_gList, e_tgnm, e_tgtp, e_tg0, e_tg1, e_sq1, e_sq2, e_sq3, e_sq4, e_sq5, e_qv2, e_qv3, e_qv4, e_qv5, e_data1, e_data2, e_data3, e_okI, e_okB, e_i2, e_sub, e_mul, e_mod, e_div, e_pow, e_lt, e_le, e_gt, e_ge, e_neg, e_addI, e_addS, e_addT, e_addL1, e_addL2, e_addL3, e_addL4, e_addL5, e_addL6, e_addL7, e_addL8, e_addL9, e_eq, e_ne, e_in, e_notIn, e_inT, e_inT2, e_inL1, e_inL2, e_inL3, e_is, e_isNot, e_isN1, e_isN2, e_isN3, e_isN4, e_isN5, e_isN6, e_isN7, e_ixT, e_ixL, e_ixO, e_ixB, e_ixSc, e_lenT, e_lenL, e_lenO, e_lenB, e_lenSc, e_lenS, e_tupT, e_tupL, e_tupO, e_tupB, e_lisT, e_lisL, e_lisO, e_lisB, e_min2, e_max2, e_any, e_all, e_sum, e_sorted, e_rev, e_sl, e_oN, e_isi, e_lc, e_wipe0, e_wipe1, e_iA, e_iAb, e_gAq1, e_gAq2, e_gAq3, e_gAqb1, e_gAqb2, e_gAqb3, e_gAqb4, e_no, e_cCh, e_cChI, e_aug, e_decT, e_decF, e_cDispS, e_cDT, e_cDK, e_cDisp1, e_storeA, e_stR1, e_stR2, e_stR3, e_sd1, e_keyD1, e_keyD2, e_keyTD, e_intsD, e_intsD0, e_borT, e_borT2, e_borK, e_borK2, e_argT, e_argT2, e_argK, e_argK2, e_nbT, e_nbK, e_putT, e_putK, e_gAt1, e_gAt2, e_gAt3, e_gAt4, e_gGetDK, e_gGetDT, e_gIxD, e_gInD, e_gNotInD, e_cGet1, e_cGet2, e_dk1, e_dk2, e_dk3, e_dk4, e_dt1, e_dt2, e_del, atI_zero, e_at1, e_at2, e_at3, e_at4, e_at5, e_at6, e_at7, e_at8, e_at9, e_atm, e_V, e_retV, e_unp, e_app, e_store, e_fzE, oS, rsO_some, Rs.bind_ok, Rs.bind_no, Rs.out_ok, Out.then_nx, Out.then_rt, Out.then_ct, Out.then_bk, fin_rt, fin_nx, List.getElem?_cons_zero, List.getElem?_cons_succ, List.set_cons_succ, List.set_cons_zero, List.length_cons, List.length_nil, Nat.reduceAdd, Nat.reduceLT, Nat.reduceLeDiff, Nat.reduceEqDiff, if_true, if_false, Bool.false_eq_true, Bool.not_true, Bool.not_false, and_self, true_and, and_true, List.map_cons, List.map_nil, Option.map_some, sh_int, sh_bool, sh_none, sh_tup, sh_lst, eqv_int, reduceIte, Option.bind_some, Option.bind_none, kitB_ll, kitB_lt, kitB_tt, kitB_tl, kitB_ii, tyD_list, tyD_int, Bool.true_and, Bool.false_and, Bool.and_true, Bool.and_false, Bool.or_true, Bool.true_or, Bool.false_or, Bool.or_false, Bool.and_self, Bool.or_self, e_cAK, List.append_nil, List.nil_append, List.cons_append, e_andB, e_orB, e_andR, e_orR, tyD_tuple, eqv_bool, eqv_none, tyD_bool, tyD_str, tyD_none, kitB_bb, kitB_nb, kitB_bi, kitB_ib, kitB_nl, kitB_nt, beq_self_eq_true, h2, h3, e_iA, hi, e1, if_pos hza]
def usP (ss : List Stp) : List (List Int) := ss.map fun s => s.row ss.length
def osI (os : List Nat) : List Int := os.map fun o : Nat => (o : Int)
theorem find_range (p : Nat → Bool) : ∀ (n : Nat) (c : Nat), (List.range n).find? p = some c → c < n ∧ p c = true ∧ ∀ j, j < c → p j = false := by
  intro n c h
  have h1 := List.mem_range.mp (List.mem_of_find?_eq_some h)
  refine ⟨h1, List.find?_some h, fun j hj => ?_⟩
  obtain ⟨_, as, bs, e, hb⟩ := List.find?_eq_some_iff_append.mp h
  have hl : as.length = c := by
    have h2 : (List.range n)[as.length]? = some c := by rw [e]; simp
    rw [List.getElem?_range (by have := (List.getElem?_eq_some_iff.mp h2).1; simpa using this)] at h2
    exact Option.some.inj h2
  have h3 : as[j]? = some j := by
    have h4 : (List.range n)[j]? = some j := List.getElem?_range (by omega)
    rw [e, List.getElem?_append_left (by omega)] at h4
    exact h4
  have := hb j (List.mem_of_getElem? h3)
  simpa using this
/-- the place of the step that has these words -/
def stepIx (ss : List Stp) (op a b : Str) : Option Nat := ss.findIdx? fun s => decide (s.op.str = op ∧ s.l.str = a ∧ s.r.str = b)
theorem stepIx_any (ss : List Stp) (op a b : Str) : ((ss.map Stp.d).any fun z => PyData.eqv z (.tuple [.str op, .str a, .str b])) = (stepIx ss op a b).isSome := by
  unfold stepIx
  rw [List.any_map, List.findIdx?_isSome]
  congr 1
  funext s
  exact eqv3 _ _ _ _ _ _
theorem stepIx_find (ss : List Stp) (op a b : Str) : ((ss.map Stp.d).findIdx? fun z => PyData.eqv z (.tuple [.str op, .str a, .str b])) = stepIx ss op a b := by
  unfold stepIx
  rw [List.findIdx?_map]
  congr 1
  funext s
  exact eqv3 _ _ _ _ _ _
theorem stepIx_lt {ss : List Stp} {op a b : Str} {t : Nat} (h : stepIx ss op a b = some t) : t < ss.length := (List.findIdx?_eq_some_iff_getElem.mp h).1
theorem filt_head (p : Stp → Bool) (ss : List Stp) : ((List.range ss.length).filter fun k => (ss[k]?).any p).head? = ss.findIdx? p := by
  rw [List.head?_filter]
  cases h : ss.findIdx? p with
  | none =>
    rw [List.find?_eq_none]
    intro k hk
    have hk := List.mem_range.mp hk
    have := List.findIdx?_eq_none_iff.mp h ss[k] (List.getElem_mem hk)
    rw [List.getElem?_eq_getElem hk]
    simpa using this
  | some t =>
    obtain ⟨h1, h2, h3⟩ := List.findIdx?_eq_some_iff_getElem.mp h
    cases z : (List.range ss.length).find? fun k => (ss[k]?).any p with
    | none =>
      have := List.find?_eq_none.mp z t (List.mem_range.mpr h1)
      rw [List.getElem?_eq_getElem h1] at this
      simp [h2] at this
    | some c =>
      obtain ⟨z1, z2, z3⟩ := find_range _ _ _ z
      rw [List.getElem?_eq_getElem z1] at z2
      have z2 : p ss[c] = true := z2
      rcases Nat.lt_trichotomy c t with w | w | w
      · have := h3 c w
        rw [z2] at this
        exact absurd rfl this
      · rw [w]
      · have := z3 t w
        rw [List.getElem?_eq_getElem h1] at this
        have this : p ss[t] = false := this
        rw [h2] at this
        cases this
theorem cut_pre {α : Type} (xs : List α) (k : Nat) (h : k ≤ xs.length) : cutL xs none (some (k : Int)) = xs.take k := by
  unfold cutL
  rw [HT.sIx_nat]
  show (xs.drop 0).take _ = _
  rw [List.drop_zero, Nat.min_eq_left h]
  rfl
theorem cut_suf {α : Type} (xs : List α) (k : Nat) (h : k ≤ xs.length) : cutL xs (some (k : Int)) none = xs.drop k := by
  unfold cutL
  rw [HT.sIx_nat]
  have h0 : HT.sIx xs.length xs.length none = xs.length := rfl
  rw [h0, Nat.min_eq_left h]
  exact List.take_of_length_le (by rw [List.length_drop]; omega)
/-! ### two programs joined -/
def lkD : Option Nat → PyData
  | none => .none
  | some k => .int (k : Int)
def strD (o : Opd) : PyData := .str o.str
def namesM : Nat → List (Option Nat) → List Opd
  | _, [] => []
  | n, none :: r => .x n :: namesM (n + 1) r
  | n, some k :: r => .s k :: namesM n r
def noneC (ls : List (Option Nat)) : Nat := (ls.filter fun l => l.isNone).length
theorem names_len : ∀ (n : Nat) (ls : List (Option Nat)), (namesM n ls).length = ls.length
  | _, [] => rfl
  | n, none :: r => by show (namesM (n + 1) r).length + 1 = _; rw [names_len (n + 1) r]; rfl
  | n, some k :: r => by show (namesM n r).length + 1 = _; rw [names_len n r]; rfl
theorem names_small : ∀ (n : Nat) (ls : List (Option Nat)), n + ls.length ≤ 100000 → (∀ k, some k ∈ ls → k < 100000) → ∀ o ∈ namesM n ls, o.small
  | _, [], _, _, o, h => by cases h
  | n, none :: r, hn, hk, o, h => by
    rw [List.length_cons] at hn
    rcases List.mem_cons.mp h with rfl | h
    · show n < 100000; omega
    · exact names_small (n + 1) r (by omega) (fun k hm => hk k (List.mem_cons_of_mem _ hm)) o h
  | n, some k :: r, hn, hk, o, h => by
    rw [List.length_cons] at hn
    rcases List.mem_cons.mp h with rfl | h
    · exact hk k List.mem_cons_self
    · exact names_small n r (by omega) (fun k hm => hk k (List.mem_cons_of_mem _ hm)) o h
def ledM (names : List Opd) (places : List Nat) : Opd → Opd
  | .x i => names.getD i (.x 0)
  | .s k => .s (places.getD k 0)
  | .c v => .c v
def joinS (names : List Opd) (st : List Stp × List Nat) (s : Stp) : List Stp × List Nat :=
  let t : Stp := ⟨s.op, ledM names st.2 s.l, ledM names st.2 s.r⟩
  match stepIx st.1 t.op.str t.l.str t.r.str with
  | some j => (st.1, st.2 ++ [j])
  | none => (st.1 ++ [t], st.2 ++ [st.1.length])
def joinM (names : List Opd) (ss tt : List Stp) : List Stp × List Nat := tt.foldl (joinS names) (ss, [])
theorem opd_heads {o : Opd} (ho : o.small) : ∃ h : Str, gIx (.d (.str o.str)) (.d (.int 0)) = .ok (.d (.str h)) ∧ PyData.strOk h = true ∧ decide (h = "x") = (match o with | .x _ => true | _ => false) ∧ decide (h = "s") = (match o with | .s _ => true | _ => false) := by
  cases o with
  | x i => exact ⟨"x", lx_head let_x ho, letx_ok, decide_eq_true rfl, decide_eq_false (of_eq_false x_ne_s)⟩
  | s k => exact ⟨"s", lx_head let_s ho, lets_ok, decide_eq_false (of_eq_false s_ne_x), decide_eq_true rfl⟩
  | c v =>
    obtain ⟨d, h1, h2, h3⟩ := num_head (n := v) ho
    exact ⟨⟨#[d]⟩, h3, digit_ok h2, decide_eq_false (of_eq_false (digit_ne let_x h2 (by decide))), decide_eq_false (of_eq_false (digit_ne let_s h2 (by decide)))⟩
/-- an operand that can be led -/
structure LedOk (names : List Opd) (places : List Nat) (o : Opd) : Prop where
  small : o.small
  x : ∀ i, o = .x i → i < names.length
  s : ∀ k, o = .s k → k < places.length
theorem led_small {names : List Opd} {places : List Nat} {o : Opd} (h : LedOk names places o) (hn : ∀ o ∈ names, o.small) (hp : ∀ k ∈ places, k < 100000) : (ledM names places o).small := by
  cases o with
  | x i =>
    have hi := h.x i rfl
    show (names.getD i (.x 0)).small
    rw [List.getD_eq_getElem?_getD, List.getElem?_eq_getElem hi]
    exact hn _ (List.getElem_mem hi)
  | s k =>
    have hi := h.s k rfl
    show places.getD k 0 < 100000
    rw [List.getD_eq_getElem?_getD, List.getElem?_eq_getElem hi]
    exact hp _ (List.getElem_mem hi)
  | c v => exact h.small
theorem names_at {names : List Opd} {i : Nat} (h : i < names.length) : atI (names.map strD) (i : Int) = some (.str (names.getD i (.x 0)).str) := by
  rw [atI_cons _ _ (by rw [List.length_map]; exact h), List.getElem?_map, List.getElem?_eq_getElem h, List.getD_eq_getElem?_getD, List.getElem?_eq_getElem h]
  rfl
theorem nats_at {ps : List Nat} {i : Nat} (h : i < ps.length) : atI (ps.map natI) (i : Int) = some (.int ((ps.getD i 0 : Nat) : Int)) := by
  rw [atI_cons _ _ (by rw [List.length_map]; exact h), List.getElem?_map, List.getElem?_eq_getElem h, List.getD_eq_getElem?_getD, List.getElem?_eq_getElem h]
  rfl
theorem led_ok {names : List Opd} {places : List Nat} {o : Opd} (h : LedOk names places o) (hp : ∀ k ∈ places, k < 100000) : F_led [.d (.str o.str), .d (.list (names.map strD)), .bl (places.map natI)] = .ok (.d (.str (ledM names places o).str)) := by
  obtain ⟨hd, h1, h2, h3, h4⟩ := opd_heads h.small
  show (B_led [some (.d (.str o.str)), some (.d (.list (names.map strD))), some (.bl (places.map natI))]).fin = _
  unfold B_led
  cases o with
  | x i =>
    have hi := h.x i rfl
    have hs : i < 100000 := h.small
    have t1 := lx_tail let_x hs
    have t1 : gSl (.d (.str (Opd.x i).str)) (some 1) none = _ := t1
    have t2 := int_ok hs
    have t3 := names_at hi
    have h3 : decide (hd = "x") = true := h3
    have e : ledM names places (.x i) = names.getD i (.x 0) := rfl
    rw [e]
    generalize (names.getD i (.x 0)).str = NS at *
    generalize names.map strD = NL at *
    generalize places.map natI = PL at *
    generalize (Opd.x i).str = S at *
    generalize numS i = N at *
    simp only [e_nil, e_seq, e_fz, e_bk, e_ct, e_ret, e_retN, e_drop, e_set, e_if, e_for, e_cC, e_c2, e_c1, e_cA, e_aN, e_aC, e_cB, e_asB, e_bNot, e_bAnd, e_bOr, e_vAnd, e_vOr, e_vNot, e_vIf, e_bYes, e_iL, e_iT, e_iLb, e_iR, e_gL1, e_gL2, e_gL3, e_gT, e_gLb1, e_gLb2, e_gLb3, e_gLb4, e_nb1, e_nb2, e_bor1, e_bor2, e_bor3, e_bor4, e_arg1, e_arg2, e_arg3, e_arg4, e_putd, e_puto, e_toD1, e_toD2, e_allD0, e_allD1, e_allD2, e_gTupl, e_gList, e_tgnm, e_tgtp, e_tg0, e_tg1, e_sq1, e_sq2, e_sq3, e_sq4, e_sq5, e_qv2, e_qv3, e_qv4, e_qv5, e_data1, e_data2, e_data3, e_okI, e_okB, e_i2, e_sub, e_mul, e_mod, e_div, e_pow, e_lt, e_le, e_gt, e_ge, e_neg, e_addI, e_addS, e_addT, e_addL1, e_addL2, e_addL3, e_addL4, e_addL5, e_addL6, e_addL7, e_addL8, e_addL9, e_eq, e_ne, e_in, e_notIn, e_inT, e_inT2, e_inL1, e_inL2, e_inL3, e_is, e_isNot, e_isN1, e_isN2, e_isN3, e_isN4, e_isN5, e_isN6, e_isN7, e_ixT, e_ixL, e_ixO, e_ixB, e_ixSc, e_lenT, e_lenL, e_lenO, e_lenB, e_lenSc, e_lenS, e_tupT, e_tupL, e_tupO, e_tupB, e_lisT, e_lisL, e_lisO, e_lisB, e_min2, e_max2, e_any, e_all, e_sum, e_sorted, e_rev, e_sl, e_oN, e_isi, e_lc, e_wipe0, e_wipe1, e_iA, e_iAb, e_gAq1, e_gAq2, e_gAq3, e_gAqb1, e_gAqb2, e_gAqb3, e_gAqb4, e_no, e_cCh, e_cChI, e_aug, e_decT, e_decF, e_cDispS, e_cDT, e_cDK, e_cDisp1, e_storeA, e_stR1, e_stR2, e_stR3, e_sd1, e_keyD1, e_keyD2, e_keyTD, e_intsD, e_intsD0, e_borT, e_borT2, e_borK, e_borK2, e_argT, e_argT2, e_argK, e_argK2, e_nbT, e_nbK, e_putT, e_putK, e_gAt1, e_gAt2, e_gAt3, e_gAt4, e_gGetDK, e_gGetDT, e_gIxD, e_gInD, e_gNotInD, e_cGet1, e_cGet2, e_dk1, e_dk2, e_dk3, e_dk4, e_dt1, e_dt2, e_del, atI_zero, e_at1, e_at2, e_at3, e_at4, e_at5, e_at6, e_at7, e_at8, e_at9, e_atm, e_V, e_retV, e_unp, e_app, e_store, e_fzE, oS, rsO_some, Rs.bind_ok, Rs.bind_no, Rs.out_ok, Out.then_nx, Out.then_rt, Out.then_ct, Out.then_bk, fin_rt, fin_nx, List.getElem?_cons_zero, List.getElem?_cons_succ, List.set_cons_succ, List.set_cons_zero, List.length_cons, List.length_nil, Nat.reduceAdd, Nat.reduceLT, Nat.reduceLeDiff, Nat.reduceEqDiff, if_true, if_false, Bool.false_eq_true, Bool.not_true, Bool.not_false, and_self, true_and, and_true, List.map_cons, List.map_nil, Option.map_some, sh_int, sh_bool, sh_none, sh_tup, sh_lst, eqv_int, reduceIte, Option.bind_some, Option.bind_none, kitB_ll, kitB_lt, kitB_tt, kitB_tl, kitB_ii, tyD_list, tyD_int, Bool.true_and, Bool.false_and, Bool.and_true, Bool.and_false, Bool.or_true, Bool.true_or, Bool.false_or, Bool.or_false, Bool.and_self, Bool.or_self, e_cAK, List.append_nil, List.nil_append, List.cons_append, e_andB, e_orB, e_andR, e_orR, tyD_tuple, eqv_bool, eqv_none, tyD_bool, tyD_str, tyD_none, kitB_bb, kitB_nb, kitB_bi, kitB_ib, kitB_nl, kitB_nt, beq_self_eq_true, h1, sh_str h2, sh_str letx_ok, eqv_str, h3, t1, t2, t3]
  | s k =>
    have hi := h.s k rfl
    have hs : k < 100000 := h.small
    have t1 := lx_tail let_s hs
    have t1 : gSl (.d (.str (Opd.s k).str)) (some 1) none = _ := t1
    have t2 := int_ok hs
    have t3 := nats_at hi
    have hv : places.getD k 0 < 100000 := by
      rw [List.getD_eq_getElem?_getD, List.getElem?_eq_getElem hi]
      exact hp _ (List.getElem_mem hi)
    have t4 := str_ok hv
    have t5 := add_lx let_s hv
    have h3 : decide (hd = "x") = false := h3
    have h4 : decide (hd = "s") = true := h4
    have e : (ledM names places (.s k)).str = lx "s" (places.getD k 0) := rfl
    rw [e]
    generalize lx "s" (places.getD k 0) = NS at *
    generalize numS (places.getD k 0) = N2 at *
    generalize names.map strD = NL at *
    generalize places.map natI = PL at *
    generalize (Opd.s k).str = S at *
    generalize numS k = N at *
    simp only [e_nil, e_seq, e_fz, e_bk, e_ct, e_ret, e_retN, e_drop, e_set, e_if, e_for, e_cC, e_c2, e_c1, e_cA, e_aN, e_aC, e_cB, e_asB, e_bNot, e_bAnd, e_bOr, e_vAnd, e_vOr, e_vNot, e_vIf, e_bYes, e_iL, e_iT, e_iLb, e_iR, e_gL1, e_gL2, e_gL3, e_gT, e_gLb1, e_gLb2, e_gLb3, e_gLb4, e_nb1, e_nb2, e_bor1, e_bor2, e_bor3, e_bor4, e_arg1, e_arg2, e_arg3, e_arg4, e_putd, e_puto, e_toD1, e_toD2, e_allD0, e_allD1, e_allD2, e_gTupl, e_gList, e_tgnm, e_tgtp, e_tg0, e_tg1, e_sq1, e_sq2, e_sq3, e_sq4, e_sq5, e_qv2, e_qv3, e_qv4, e_qv5, e_data1, e_data2, e_data3, e_okI, e_okB, e_i2, e_sub, e_mul, e_mod, e_div, e_pow, e_lt, e_le, e_gt, e_ge, e_neg, e_addI, e_addS, e_addT, e_addL1, e_addL2, e_addL3, e_addL4, e_addL5, e_addL6, e_addL7, e_addL8, e_addL9, e_eq, e_ne, e_in, e_notIn, e_inT, e_inT2, e_inL1, e_inL2, e_inL3, e_is, e_isNot, e_isN1, e_isN2, e_isN3, e_isN4, e_isN5, e_isN6, e_isN7, e_ixT, e_ixL, e_ixO, e_ixB, e_ixSc, e_lenT, e_lenL, e_lenO, e_lenB, e_lenSc, e_lenS, e_tupT, e_tupL, e_tupO, e_tupB, e_lisT, e_lisL, e_lisO, e_lisB, e_min2, e_max2, e_any, e_all, e_sum, e_sorted, e_rev, e_sl, e_oN, e_isi, e_lc, e_wipe0, e_wipe1, e_iA, e_iAb, e_gAq1, e_gAq2, e_gAq3, e_gAqb1, e_gAqb2, e_gAqb3, e_gAqb4, e_no, e_cCh, e_cChI, e_aug, e_decT, e_decF, e_cDispS, e_cDT, e_cDK, e_cDisp1, e_storeA, e_stR1, e_stR2, e_stR3, e_sd1, e_keyD1, e_keyD2, e_keyTD, e_intsD, e_intsD0, e_borT, e_borT2, e_borK, e_borK2, e_argT, e_argT2, e_argK, e_argK2, e_nbT, e_nbK, e_putT, e_putK, e_gAt1, e_gAt2, e_gAt3, e_gAt4, e_gGetDK, e_gGetDT, e_gIxD, e_gInD, e_gNotInD, e_cGet1, e_cGet2, e_dk1, e_dk2, e_dk3, e_dk4, e_dt1, e_dt2, e_del, atI_zero, e_at1, e_at2, e_at3, e_at4, e_at5, e_at6, e_at7, e_at8, e_at9, e_atm, e_V, e_retV, e_unp, e_app, e_store, e_fzE, oS, rsO_some, Rs.bind_ok, Rs.bind_no, Rs.out_ok, Out.then_nx, Out.then_rt, Out.then_ct, Out.then_bk, fin_rt, fin_nx, List.getElem?_cons_zero, List.getElem?_cons_succ, List.set_cons_succ, List.set_cons_zero, List.length_cons, List.length_nil, Nat.reduceAdd, Nat.reduceLT, Nat.reduceLeDiff, Nat.reduceEqDiff, if_true, if_false, Bool.false_eq_true, Bool.not_true, Bool.not_false, and_self, true_and, and_true, List.map_cons, List.map_nil, Option.map_some, sh_int, sh_bool, sh_none, sh_tup, sh_lst, eqv_int, reduceIte, Option.bind_some, Option.bind_none, kitB_ll, kitB_lt, kitB_tt, kitB_tl, kitB_ii, tyD_list, tyD_int, Bool.true_and, Bool.false_and, Bool.and_true, Bool.and_false, Bool.or_true, Bool.true_or, Bool.false_or, Bool.or_false, Bool.and_self, Bool.or_self, e_cAK, List.append_nil, List.nil_append, List.cons_append, e_andB, e_orB, e_andR, e_orR, tyD_tuple, eqv_bool, eqv_none, tyD_bool, tyD_str, tyD_none, kitB_bb, kitB_nb, kitB_bi, kitB_ib, kitB_nl, kitB_nt, beq_self_eq_true, h1, sh_str h2, sh_str letx_ok, sh_str lets_ok, eqv_str, h3, h4, t1, t2, t3, t4, t5]
  | c v =>
    have h3 : decide (hd = "x") = false := h3
    have h4 : decide (hd = "s") = false := h4
    have e : (ledM names places (.c v)).str = (Opd.c v).str := rfl
    rw [e]
    generalize names.map strD = NL at *
    generalize places.map natI = PL at *
    generalize (Opd.c v).str = S at *
    simp only [e_nil, e_seq, e_fz, e_bk, e_ct, e_ret, e_retN, e_drop, e_set, e_if, e_for, e_cC, e_c2, e_c1, e_cA, e_aN, e_aC, e_cB, e_asB, e_bNot, e_bAnd, e_bOr, e_vAnd, e_vOr, e_vNot, e_vIf, e_bYes, e_iL, e_iT, e_iLb, e_iR, e_gL1, e_gL2, e_gL3, e_gT, e_gLb1, e_gLb2, e_gLb3, e_gLb4, e_nb1, e_nb2, e_bor1, e_bor2, e_bor3, e_bor4, e_arg1, e_arg2, e_arg3, e_arg4, e_putd, e_puto, e_toD1, e_toD2, e_allD0, e_allD1, e_allD2, e_gTupl, e_gList, e_tgnm, e_tgtp, e_tg0, e_tg1, e_sq1, e_sq2, e_sq3, e_sq4, e_sq5, e_qv2, e_qv3, e_qv4, e_qv5, e_data1, e_data2, e_data3, e_okI, e_okB, e_i2, e_sub, e_mul, e_mod, e_div, e_pow, e_lt, e_le, e_gt, e_ge, e_neg, e_addI, e_addS, e_addT, e_addL1, e_addL2, e_addL3, e_addL4, e_addL5, e_addL6, e_addL7, e_addL8, e_addL9, e_eq, e_ne, e_in, e_notIn, e_inT, e_inT2, e_inL1, e_inL2, e_inL3, e_is, e_isNot, e_isN1, e_isN2, e_isN3, e_isN4, e_isN5, e_isN6, e_isN7, e_ixT, e_ixL, e_ixO, e_ixB, e_ixSc, e_lenT, e_lenL, e_lenO, e_lenB, e_lenSc, e_lenS, e_tupT, e_tupL, e_tupO, e_tupB, e_lisT, e_lisL, e_lisO, e_lisB, e_min2, e_max2, e_any, e_all, e_sum, e_sorted, e_rev, e_sl, e_oN, e_isi, e_lc, e_wipe0, e_wipe1, e_iA, e_iAb, e_gAq1, e_gAq2, e_gAq3, e_gAqb1, e_gAqb2, e_gAqb3, e_gAqb4, e_no, e_cCh, e_cChI, e_aug, e_decT, e_decF, e_cDispS, e_cDT, e_cDK, e_cDisp1, e_storeA, e_stR1, e_stR2, e_stR3, e_sd1, e_keyD1, e_keyD2, e_keyTD, e_intsD, e_intsD0, e_borT, e_borT2, e_borK, e_borK2, e_argT, e_argT2, e_argK, e_argK2, e_nbT, e_nbK, e_putT, e_putK, e_gAt1, e_gAt2, e_gAt3, e_gAt4, e_gGetDK, e_gGetDT, e_gIxD, e_gInD, e_gNotInD, e_cGet1, e_cGet2, e_dk1, e_dk2, e_dk3, e_dk4, e_dt1, e_dt2, e_del, atI_zero, e_at1, e_at2, e_at3, e_at4, e_at5, e_at6, e_at7, e_at8, e_at9, e_atm, e_V, e_retV, e_unp, e_app, e_store, e_fzE, oS, rsO_some, Rs.bind_ok, Rs.bind_no, Rs.out_ok, Out.then_nx, Out.then_rt, Out.then_ct, Out.then_bk, fin_rt, fin_nx, List.getElem?_cons_zero, List.getElem?_cons_succ, List.set_cons_succ, List.set_cons_zero, List.length_cons, List.length_nil, Nat.reduceAdd, Nat.reduceLT, Nat.reduceLeDiff, Nat.reduceEqDiff, if_true, if_false, Bool.false_eq_true, Bool.not_true, Bool.not_false, and_self, true_and, and_true, List.map_cons, List.map_nil, Option.map_some, sh_int, sh_bool, sh_none, sh_tup, sh_lst, eqv_int, reduceIte, Option.bind_some, Option.bind_none, kitB_ll, kitB_lt, kitB_tt, kitB_tl, kitB_ii, tyD_list, tyD_int, Bool.true_and, Bool.false_and, Bool.and_true, Bool.and_false, Bool.or_true, Bool.true_or, Bool.false_or, Bool.or_false, Bool.and_self, Bool.or_self, e_cAK, List.append_nil, List.nil_append, List.cons_append, e_andB, e_orB, e_andR, e_orR, tyD_tuple, eqv_bool, eqv_none, tyD_bool, tyD_str, tyD_none, kitB_bb, kitB_nb, kitB_bi, kitB_ib, kitB_nl, kitB_nt, beq_self_eq_true, h1, sh_str h2, sh_str letx_ok, sh_str lets_ok, eqv_str, h3, h4]
theorem names_loop (e0 e1 : Option RV) : ∀ (ls : List (Option Nat)) (n : Nat) (acc : List PyData) (e4 : Option RV), n + ls.length ≤ 1000 → acc.length + ls.length ≤ 1000 → (∀ k, some k ∈ ls → k < 100000) →
    ∃ e4', loopF (.nm 4) L0_input_names (ls.map lkD) [e0, e1, some (.ol acc), some (.d (.int (n : Int))), e4] = .nx [e0, e1, some (.ol (acc ++ (namesM n ls).map strD)), some (.d (.int ((n + noneC ls : Nat) : Int))), e4']
  | [], n, acc, e4, _, _, _ => ⟨e4, by simp [namesM, noneC]⟩
  | none :: r, n, acc, e4, h1, h2, hk => by
    rw [List.length_cons] at h1 h2
    obtain ⟨e4', ih⟩ := names_loop e0 e1 r (n + 1) (acc ++ [strD (.x n)]) (some (.d .none)) (by omega) (by rw [List.length_append, List.length_singleton]; omega) (fun k hm => hk k (List.mem_cons_of_mem _ hm))
    refine ⟨e4', ?_⟩
    rw [List.map_cons, loopF_cons]
    have ht : tgE (.nm 4) (lkD none) [e0, e1, some (.ol acc), some (.d (.int (n : Int))), e4] = some [e0, e1, some (.ol acc), some (.d (.int (n : Int))), some (.d .none)] := rfl
    rw [ht]
    have t4 := str_ok (n := n) (by omega)
    have t5 := add_lx let_x (n := n) (by omega)
    have hz : acc.length ≤ 1000000 := by omega
    have k1 : ((n : Int) + 1) = ((n + 1 : Nat) : Int) := by omega
    have hb : L0_input_names [e0, e1, some (.ol acc), some (.d (.int (n : Int))), some (.d .none)] = .nx [e0, e1, some (.ol (acc ++ [strD (.x n)])), some (.d (.int ((n + 1 : Nat) : Int))), some (.d .none)] := by
      have e : strD (.x n) = .str (lx "x" n) := rfl
      rw [e]
      unfold L0_input_names
      generalize lx "x" n = S at *
      generalize numS n = N at *
      simp only [e_nil, e_seq, e_fz, e_bk, e_ct, e_ret, e_retN, e_drop, e_set, e_if, e_for, e_cC, e_c2, e_c1, e_cA, e_aN, e_aC, e_cB, e_asB, e_bNot, e_bAnd, e_bOr, e_vAnd, e_vOr, e_vNot, e_vIf, e_bYes, e_iL, e_iT, e_iLb, e_iR, e_gL1, e_gL2, e_gL3, e_gT, e_gLb1, e_gLb2, e_gLb3, e_gLb4, e_nb1, e_nb2, e_bor1, e_bor2, e_bor3, e_bor4, e_arg1, e_arg2, e_arg3, e_arg4, e_putd, e_puto, e_toD1, e_toD2, e_allD0, e_allD1, e_allD2, e_gTupl, e_gList, e_tgnm, e_tgtp, e_tg0, e_tg1, e_sq1, e_sq2, e_sq3, e_sq4, e_sq5, e_qv2, e_qv3, e_qv4, e_qv5, e_data1, e_data2, e_data3, e_okI, e_okB, e_i2, e_sub, e_mul, e_mod, e_div, e_pow, e_lt, e_le, e_gt, e_ge, e_neg, e_addI, e_addS, e_addT, e_addL1, e_addL2, e_addL3, e_addL4, e_addL5, e_addL6, e_addL7, e_addL8, e_addL9, e_eq, e_ne, e_in, e_notIn, e_inT, e_inT2, e_inL1, e_inL2, e_inL3, e_is, e_isNot, e_isN1, e_isN2, e_isN3, e_isN4, e_isN5, e_isN6, e_isN7, e_ixT, e_ixL, e_ixO, e_ixB, e_ixSc, e_lenT, e_lenL, e_lenO, e_lenB, e_lenSc, e_lenS, e_tupT, e_tupL, e_tupO, e_tupB, e_lisT, e_lisL, e_lisO, e_lisB, e_min2, e_max2, e_any, e_all, e_sum, e_sorted, e_rev, e_sl, e_oN, e_isi, e_lc, e_wipe0, e_wipe1, e_iA, e_iAb, e_gAq1, e_gAq2, e_gAq3, e_gAqb1, e_gAqb2, e_gAqb3, e_gAqb4, e_no, e_cCh, e_cChI, e_aug, e_decT, e_decF, e_cDispS, e_cDT, e_cDK, e_cDisp1, e_storeA, e_stR1, e_stR2, e_stR3, e_sd1, e_keyD1, e_keyD2, e_keyTD, e_intsD, e_intsD0, e_borT, e_borT2, e_borK, e_borK2, e_argT, e_argT2, e_argK, e_argK2, e_nbT, e_nbK, e_putT, e_putK, e_gAt1, e_gAt2, e_gAt3, e_gAt4, e_gGetDK, e_gGetDT, e_gIxD, e_gInD, e_gNotInD, e_cGet1, e_cGet2, e_dk1, e_dk2, e_dk3, e_dk4, e_dt1, e_dt2, e_del, atI_zero, e_at1, e_at2, e_at3, e_at4, e_at5, e_at6, e_at7, e_at8, e_at9, e_atm, e_V, e_retV, e_unp, e_app, e_store, e_fzE, oS, rsO_some, Rs.bind_ok, Rs.bind_no, Rs.out_ok, Out.then_nx, Out.then_rt, Out.then_ct, Out.then_bk, fin_rt, fin_nx, List.getElem?_cons_zero, List.getElem?_cons_succ, List.set_cons_succ, List.set_cons_zero, List.length_cons, List.length_nil, Nat.reduceAdd, Nat.reduceLT, Nat.reduceLeDiff, Nat.reduceEqDiff, if_true, if_false, Bool.false_eq_true, Bool.not_true, Bool.not_false, and_self, true_and, and_true, List.map_cons, List.map_nil, Option.map_some, sh_int, sh_bool, sh_none, sh_tup, sh_lst, eqv_int, reduceIte, Option.bind_some, Option.bind_none, kitB_ll, kitB_lt, kitB_tt, kitB_tl, kitB_ii, tyD_list, tyD_int, Bool.true_and, Bool.false_and, Bool.and_true, Bool.and_false, Bool.or_true, Bool.true_or, Bool.false_or, Bool.or_false, Bool.and_self, Bool.or_self, e_cAK, List.append_nil, List.nil_append, List.cons_append, e_andB, e_orB, e_andR, e_orR, tyD_tuple, eqv_bool, eqv_none, tyD_bool, tyD_str, tyD_none, kitB_bb, kitB_nb, kitB_bi, kitB_ib, kitB_nl, kitB_nt, beq_self_eq_true, isNone, t4, t5, if_pos hz, k1]
    simp only [hb, lp_nx]
    rw [ih]
    have e1 : (namesM n (none :: r)).map strD = strD (.x n) :: (namesM (n + 1) r).map strD := rfl
    have e2 : noneC (none :: r) = noneC r + 1 := by unfold noneC; rw [List.filter_cons_of_pos (by rfl)]; rfl
    rw [e1, e2, List.append_assoc, show n + 1 + noneC r = n + (noneC r + 1) by omega]
    rfl
  | some k :: r, n, acc, e4, h1, h2, hk => by
    rw [List.length_cons] at h1 h2
    obtain ⟨e4', ih⟩ := names_loop e0 e1 r n (acc ++ [strD (.s k)]) (some (.d (.int (k : Int)))) (by omega) (by rw [List.length_append, List.length_singleton]; omega) (fun k hm => hk k (List.mem_cons_of_mem _ hm))
    refine ⟨e4', ?_⟩
    rw [List.map_cons, loopF_cons]
    have ht : tgE (.nm 4) (lkD (some k)) [e0, e1, some (.ol acc), some (.d (.int (n : Int))), e4] = some [e0, e1, some (.ol acc), some (.d (.int (n : Int))), some (.d (.int (k : Int)))] := rfl
    rw [ht]
    have hk0 := hk k List.mem_cons_self
    have t4 := str_ok hk0
    have t5 := add_lx let_s hk0
    have hz : acc.length ≤ 1000000 := by omega
    have hb : L0_input_names [e0, e1, some (.ol acc), some (.d (.int (n : Int))), some (.d (.int (k : Int)))] = .nx [e0, e1, some (.ol (acc ++ [strD (.s k)])), some (.d (.int (n : Int))), some (.d (.int (k : Int)))] := by
      have e : strD (.s k) = .str (lx "s" k) := rfl
      rw [e]
      unfold L0_input_names
      generalize lx "s" k = S at *
      generalize numS k = N at *
      simp only [e_nil, e_seq, e_fz, e_bk, e_ct, e_ret, e_retN, e_drop, e_set, e_if, e_for, e_cC, e_c2, e_c1, e_cA, e_aN, e_aC, e_cB, e_asB, e_bNot, e_bAnd, e_bOr, e_vAnd, e_vOr, e_vNot, e_vIf, e_bYes, e_iL, e_iT, e_iLb, e_iR, e_gL1, e_gL2, e_gL3, e_gT, e_gLb1, e_gLb2, e_gLb3, e_gLb4, e_nb1, e_nb2, e_bor1, e_bor2, e_bor3, e_bor4, e_arg1, e_arg2, e_arg3, e_arg4, e_putd, e_puto, e_toD1, e_toD2, e_allD0, e_allD1, e_allD2, e_gTupl, e_gList, e_tgnm, e_tgtp, e_tg0, e_tg1, e_sq1, e_sq2, e_sq3, e_sq4, e_sq5, e_qv2, e_qv3, e_qv4, e_qv5, e_data1, e_data2, e_data3, e_okI, e_okB, e_i2, e_sub, e_mul, e_mod, e_div, e_pow, e_lt, e_le, e_gt, e_ge, e_neg, e_addI, e_addS, e_addT, e_addL1, e_addL2, e_addL3, e_addL4, e_addL5, e_addL6, e_addL7, e_addL8, e_addL9, e_eq, e_ne, e_in, e_notIn, e_inT, e_inT2, e_inL1, e_inL2, e_inL3, e_is, e_isNot, e_isN1, e_isN2, e_isN3, e_isN4, e_isN5, e_isN6, e_isN7, e_ixT, e_ixL, e_ixO, e_ixB, e_ixSc, e_lenT, e_lenL, e_lenO, e_lenB, e_lenSc, e_lenS, e_tupT, e_tupL, e_tupO, e_tupB, e_lisT, e_lisL, e_lisO, e_lisB, e_min2, e_max2, e_any, e_all, e_sum, e_sorted, e_rev, e_sl, e_oN, e_isi, e_lc, e_wipe0, e_wipe1, e_iA, e_iAb, e_gAq1, e_gAq2, e_gAq3, e_gAqb1, e_gAqb2, e_gAqb3, e_gAqb4, e_no, e_cCh, e_cChI, e_aug, e_decT, e_decF, e_cDispS, e_cDT, e_cDK, e_cDisp1, e_storeA, e_stR1, e_stR2, e_stR3, e_sd1, e_keyD1, e_keyD2, e_keyTD, e_intsD, e_intsD0, e_borT, e_borT2, e_borK, e_borK2, e_argT, e_argT2, e_argK, e_argK2, e_nbT, e_nbK, e_putT, e_putK, e_gAt1, e_gAt2, e_gAt3, e_gAt4, e_gGetDK, e_gGetDT, e_gIxD, e_gInD, e_gNotInD, e_cGet1, e_cGet2, e_dk1, e_dk2, e_dk3, e_dk4, e_dt1, e_dt2, e_del, atI_zero, e_at1, e_at2, e_at3, e_at4, e_at5, e_at6, e_at7, e_at8, e_at9, e_atm, e_V, e_retV, e_unp, e_app, e_store, e_fzE, oS, rsO_some, Rs.bind_ok, Rs.bind_no, Rs.out_ok, Out.then_nx, Out.then_rt, Out.then_ct, Out.then_bk, fin_rt, fin_nx, List.getElem?_cons_zero, List.getElem?_cons_succ, List.set_cons_succ, List.set_cons_zero, List.length_cons, List.length_nil, Nat.reduceAdd, Nat.reduceLT, Nat.reduceLeDiff, Nat.reduceEqDiff, if_true, if_false, Bool.false_eq_true, Bool.not_true, Bool.not_false, and_self, true_and, and_true, List.map_cons, List.map_nil, Option.map_some, sh_int, sh_bool, sh_none, sh_tup, sh_lst, eqv_int, reduceIte, Option.bind_some, Option.bind_none, kitB_ll, kitB_lt, kitB_tt, kitB_tl, kitB_ii, tyD_list, tyD_int, Bool.true_and, Bool.false_and, Bool.and_true, Bool.and_false, Bool.or_true, Bool.true_or, Bool.false_or, Bool.or_false, Bool.and_self, Bool.or_self, e_cAK, List.append_nil, List.nil_append, List.cons_append, e_andB, e_orB, e_andR, e_orR, tyD_tuple, eqv_bool, eqv_none, tyD_bool, tyD_str, tyD_none, kitB_bb, kitB_nb, kitB_bi, kitB_ib, kitB_nl, kitB_nt, beq_self_eq_true, isNone, t4, t5, if_pos hz]
    simp only [hb, lp_nx]
    rw [ih]
    have e1 : (namesM n (some k :: r)).map strD = strD (.s k) :: (namesM n r).map strD := rfl
    have e2 : noneC (some k :: r) = noneC r := by unfold noneC; rw [List.filter_cons_of_neg (by simp)]
    rw [e1, e2, List.append_assoc]
    rfl
theorem names_ok {m n : Nat} {st out : PyData} (ls : List (Option Nat)) (h1 : n + ls.length ≤ 1000) (hk : ∀ k, some k ∈ ls → k < 100000) : F_input_names [.d (progD m n st out), .d (.tuple (ls.map lkD))] = .ok (.ol ((namesM n ls).map strD)) := by
  obtain ⟨e4', e⟩ := names_loop (some (.d (progD m n st out))) (some (.d (.tuple (ls.map lkD)))) ls n [] none h1 (by simp; omega) hk
  have hi : gAq (.d (.tuple (ls.map lkD))) = .ok (ls.map lkD) := rfl
  have h2 : gIx (.d (progD m n st out)) (.d (.int 1)) = .ok (.d (.int (n : Int))) := rfl
  rw [List.nil_append] at e
  show (B_input_names [some (.d (progD m n st out)), some (.d (.tuple (ls.map lkD))), none, none, none]).fin = _
  unfold B_input_names
  generalize ls.map lkD = LL at *
  generalize (namesM n ls).map strD = NL at *
  generalize progD m n st out = PP at *
  simp only [e_nil, e_seq, e_fz, e_bk, e_ct, e_ret, e_retN, e_drop, e_set, e_if, e_for, e_cC, e_c2, e_c1, e_cA, e_aN, e_aC, e_cB, e_asB, e_bNot, e_bAnd, e_bOr, e_vAnd, e_vOr, e_vNot, e_vIf, e_bYes, e_iL, e_iT, e_iLb, e_iR, e_gL1, e_gL2, e_gL3, e_gT, e_gLb1, e_gLb2, e_gLb3, e_gLb4, e_nb1, e_nb2, e_bor1, e_bor2, e_bor3, e_bor4, e_arg1, e_arg2, e_arg3, e_arg4, e_putd, e_puto, e_toD1, e_toD2, e_allD0, e_allD1, e_allD2, e_gTupl, e_gList, e_tgnm, e_tgtp, e_tg0, e_tg1, e_sq1, e_sq2, e_sq3, e_sq4, e_sq5, e_qv2, e_qv3, e_qv4, e_qv5, e_data1, e_data2, e_data3, e_okI, e_okB, e_i2, e_sub, e_mul, e_mod, e_div, e_pow, e_lt, e_le, e_gt, e_ge, e_neg, e_addI, e_addS, e_addT, e_addL1, e_addL2, e_addL3, e_addL4, e_addL5, e_addL6, e_addL7, e_addL8, e_addL9, e_eq, e_ne, e_in, e_notIn, e_inT, e_inT2, e_inL1, e_inL2, e_inL3, e_is, e_isNot, e_isN1, e_isN2, e_isN3, e_isN4, e_isN5, e_isN6, e_isN7, e_ixT, e_ixL, e_ixO, e_ixB, e_ixSc, e_lenT, e_lenL, e_lenO, e_lenB, e_lenSc, e_lenS, e_tupT, e_tupL, e_tupO, e_tupB, e_lisT, e_lisL, e_lisO, e_lisB, e_min2, e_max2, e_any, e_all, e_sum, e_sorted, e_rev, e_sl, e_oN, e_isi, e_lc, e_wipe0, e_wipe1, e_iA, e_iAb, e_gAq1, e_gAq2, e_gAq3, e_gAqb1, e_gAqb2, e_gAqb3, e_gAqb4, e_no, e_cCh, e_cChI, e_aug, e_decT, e_decF, e_cDispS, e_cDT, e_cDK, e_cDisp1, e_storeA, e_stR1, e_stR2, e_stR3, e_sd1, e_keyD1, e_keyD2, e_keyTD, e_intsD, e_intsD0, e_borT, e_borT2, e_borK, e_borK2, e_argT, e_argT2, e_argK, e_argK2, e_nbT, e_nbK, e_putT, e_putK, e_gAt1, e_gAt2, e_gAt3, e_gAt4, e_gGetDK, e_gGetDT, e_gIxD, e_gInD, e_gNotInD, e_cGet1, e_cGet2, e_dk1, e_dk2, e_dk3, e_dk4, e_dt1, e_dt2, e_del, atI_zero, e_at1, e_at2, e_at3, e_at4, e_at5, e_at6, e_at7, e_at8, e_at9, e_atm, e_V, e_retV, e_unp, e_app, e_store, e_fzE, oS, rsO_some, Rs.bind_ok, Rs.bind_no, Rs.out_ok, Out.then_nx, Out.then_rt, Out.then_ct, Out.then_bk, fin_rt, fin_nx, List.getElem?_cons_zero, List.getElem?_cons_succ, List.set_cons_succ, List.set_cons_zero, List.length_cons, List.length_nil, Nat.reduceAdd, Nat.reduceLT, Nat.reduceLeDiff, Nat.reduceEqDiff, if_true, if_false, Bool.false_eq_true, Bool.not_true, Bool.not_false, and_self, true_and, and_true, List.map_cons, List.map_nil, Option.map_some, sh_int, sh_bool, sh_none, sh_tup, sh_lst, eqv_int, reduceIte, Option.bind_some, Option.bind_none, kitB_ll, kitB_lt, kitB_tt, kitB_tl, kitB_ii, tyD_list, tyD_int, Bool.true_and, Bool.false_and, Bool.and_true, Bool.and_false, Bool.or_true, Bool.true_or, Bool.false_or, Bool.or_false, Bool.and_self, Bool.or_self, e_cAK, List.append_nil, List.nil_append, List.cons_append, e_andB, e_orB, e_andR, e_orR, tyD_tuple, eqv_bool, eqv_none, tyD_bool, tyD_str, tyD_none, kitB_bb, kitB_nb, kitB_bi, kitB_ib, kitB_nl, kitB_nt, beq_self_eq_true, h2, e_iA, hi, e]
theorem stepIx_snoc {ss : List Stp} {t : Stp} (h : stepIx ss t.op.str t.l.str t.r.str = none) : stepIx (ss ++ [t]) t.op.str t.l.str t.r.str = some ss.length := by
  unfold stepIx at h ⊢
  rw [List.findIdx?_append, h]
  simp
/-- what the joined steps keep -/
structure JOk (k0 : Nat) (st : List Stp × List Nat) (i : Nat) : Prop where
  len : st.2.length = i
  lt : ∀ k ∈ st.2, k < st.1.length
  lo : k0 ≤ st.1.length
  hi : st.1.length ≤ k0 + i
theorem JOk.step {names : List Opd} {k0 i : Nat} {st : List Stp × List Nat} (h : JOk k0 st i) (s : Stp) : JOk k0 (joinS names st s) (i + 1) := by
  have h1 := h.len
  have h2 := h.hi
  have h3 := h.lo
  unfold joinS
  simp only
  cases hx : stepIx st.1 s.op.str (ledM names st.2 s.l).str (ledM names st.2 s.r).str with
  | some j =>
    have hj := stepIx_lt hx
    refine ⟨by simp [h1], fun k hk => ?_, h3, by show st.1.length ≤ _; omega⟩
    rcases List.mem_append.mp hk with z | z
    · exact h.lt k z
    · rw [List.mem_singleton.mp z]; exact hj
  | none =>
    refine ⟨by simp [h1], fun k hk => ?_, by simp; omega, by simp; omega⟩
    rw [List.length_append, List.length_singleton]
    rcases List.mem_append.mp hk with z | z
    · have := h.lt k z; omega
    · rw [List.mem_singleton.mp z]; omega
theorem joinM_snoc (names : List Opd) (ss tt : List Stp) (s : Stp) : joinM names ss (tt ++ [s]) = joinS names (joinM names ss tt) s := by
  unfold joinM
  rw [List.foldl_append]
  rfl
theorem join_ok {names : List Opd} {ss : List Stp} : ∀ (tt : List Stp), JOk ss.length (joinM names ss tt) tt.length := by
  intro tt
  have key : ∀ n, ∀ tt : List Stp, tt.length = n → JOk ss.length (joinM names ss tt) n := by
    intro n
    induction n with
    | zero =>
      intro tt h
      rw [List.eq_nil_of_length_eq_zero h]
      exact ⟨rfl, fun k hk => (by cases hk), Nat.le_refl _, Nat.le_add_right _ _⟩
    | succ n ih =>
      intro tt h
      rcases List.eq_nil_or_concat tt with rfl | ⟨q, s, rfl⟩
      · cases h
      · rw [List.concat_eq_append] at h ⊢
        rw [joinM_snoc]
        exact (ih q (by simpa using h)).step s
  exact key _ tt rfl
section
variable {m n m2 n2 : Nat} {ss tt : List Stp} {out out2 : PyData} {ls : List (Option Nat)}
theorem led_opd {names : List Opd} {places : List Nat} {o : Opd} {i : Nat} (h : o.ok n2 i m2) (hn : n2 ≤ 1000) (hm : m2 ≤ 1000) (hi : i ≤ 1000) (h1 : names.length = n2) (h2 : places.length = i) : LedOk names places o :=
  ⟨Opd.ok.small (by omega) (by omega) (by omega) h, fun j z => by rw [z] at h; rw [h1]; exact h, fun j z => by rw [z] at h; rw [h2]; exact h⟩
theorem put_ok (hS2 : StpsOk m2 n2 tt) (hn2 : n2 ≤ 100) (hm2 : m2 ≤ 1000) (hn : n ≤ 100) (hl : ss.length ≤ 100) (hl2 : tt.length ≤ 100) (hls : ls.length = n2) (hk : ∀ k, some k ∈ ls → k < 100000) :
    F_put_together [.d (progD m n (.tuple (ss.map Stp.d)) out), .d (progD m2 n2 (.tuple (tt.map Stp.d)) out2), .d (.tuple (ls.map lkD))]
      = .ok (.d (.tuple [.int ((n + noneC ls : Nat) : Int), .list ((joinM (namesM n ls) ss tt).1.map Stp.d), .list ((joinM (namesM n ls) ss tt).2.map natI)])) := by
  have p1 := names_ok (m := m) (n := n) (st := .tuple (ss.map Stp.d)) (out := out) ls (by omega) hk
  have nsm := names_small n ls (by omega) hk
  have nln := names_len n ls
  obtain ⟨names, hnm⟩ : ∃ names, names = namesM n ls := ⟨_, rfl⟩
  rw [← hnm] at p1 nsm nln ⊢
  have h2 : gIx (.d (progD m n (.tuple (ss.map Stp.d)) out)) (.d (.int 2)) = .ok (.d (.tuple (ss.map Stp.d))) := rfl
  have h1 : gIx (.d (progD m n (.tuple (ss.map Stp.d)) out)) (.d (.int 1)) = .ok (.d (.int (n : Int))) := rfl
  have h4 : gIx (.d (progD m2 n2 (.tuple (tt.map Stp.d)) out2)) (.d (.int 2)) = .ok (.d (.tuple (tt.map Stp.d))) := rfl
  have hi : gAq (.d (.tuple (tt.map Stp.d))) = .ok (tt.map Stp.d) := rfl
  obtain ⟨env', e1, e3, j6, j7, j8, j9, he3, rfl⟩ := loopF_ex (tg := .tp [6, 7, 8]) (f := L0_put_together) (fun i env => ∃ e3 j6 j7 j8 j9, (e3 = some (RV.ol (names.map strD)) ∨ e3 = some (RV.d (.list (names.map strD)))) ∧ env = [some (.d (progD m n (.tuple (ss.map Stp.d)) out)), some (.d (progD m2 n2 (.tuple (tt.map Stp.d)) out2)), some (.d (.tuple (ls.map lkD))), e3, some (.ol ((joinM names ss (tt.take i)).1.map Stp.d)), some (.ol ((joinM names ss (tt.take i)).2.map natI)), j6, j7, j8, j9, none, none]) Stp.d tt
    [some (.d (progD m n (.tuple (ss.map Stp.d)) out)), some (.d (progD m2 n2 (.tuple (tt.map Stp.d)) out2)), some (.d (.tuple (ls.map lkD))), some (.ol (names.map strD)), some (.ol (ss.map Stp.d)), some (.ol []), none, none, none, none, none, none] (by
    rintro i env s hx ⟨e3, j6, j7, j8, j9, he3, rfl⟩
    have hil := (List.getElem?_eq_some_iff.mp hx).1
    have htk : tt.take (i + 1) = tt.take i ++ [s] := by rw [List.take_add_one, hx]; rfl
    have jo := join_ok (names := names) (ss := ss) (tt.take i)
    rw [List.length_take, Nat.min_eq_left (by omega)] at jo
    obtain ⟨ol, or'⟩ := hS2 i s hx
    rw [htk, joinM_snoc]
    generalize joinM names ss (tt.take i) = st at *
    obtain ⟨steps, places⟩ := st
    have jl := jo.len
    have jh := jo.hi
    simp only at jl jh ⊢
    have plt : ∀ k ∈ places, k < 100000 := fun k hk => by have := jo.lt k hk; simp only at this; omega
    have lo1 := led_opd (names := names) (places := places) ol (by omega) hm2 (by omega) (by omega) jl
    have lo2 := led_opd (names := names) (places := places) or' (by omega) hm2 (by omega) (by omega) jl
    have q1 := led_ok lo1 plt
    have q2 := led_ok lo2 plt
    obtain ⟨t, ht⟩ : ∃ t : Stp, t = ⟨s.op, ledM names places s.l, ledM names places s.r⟩ := ⟨_, rfl⟩
    have htd : PyData.tuple [.str s.op.str, .str (ledM names places s.l).str, .str (ledM names places s.r).str] = t.d := by rw [ht]; rfl
    have htd' : t.d = .tuple [.str t.op.str, .str t.l.str, .str t.r.str] := rfl
    have hany : ((steps.map Stp.d).any fun z => PyData.eqv z t.d) = (stepIx steps t.op.str t.l.str t.r.str).isSome := stepIx_any _ _ _ _
    have st1 : SeqAt.shaped t.d = true := t.nice.shaped (by decide)
    have ssh : SeqAt.shaped (.list (steps.map Stp.d)) = true := (stps_nice steps).shaped (by decide)
    have hjs : joinS names (steps, places) s = match stepIx steps t.op.str t.l.str t.r.str with
      | some j => (steps, places ++ [j])
      | none => (steps ++ [t], places ++ [steps.length]) := by rw [ht]; rfl
    rw [hjs]
    have htg : ∀ env, tgE (.tp [6, 7, 8]) s.d env = tgEs [6, 7, 8] [.str s.op.str, .str s.l.str, .str s.r.str] env := fun _ => rfl
    have z1 : (steps.map Stp.d).length ≤ 1000000 := by rw [List.length_map]; omega
    have z2 : (places.map natI).length ≤ 1000000 := by rw [List.length_map]; omega
    refine ⟨[some (.d (progD m n (.tuple (ss.map Stp.d)) out)), some (.d (progD m2 n2 (.tuple (tt.map Stp.d)) out2)), some (.d (.tuple (ls.map lkD))), e3, some (.ol (steps.map Stp.d)), some (.ol (places.map natI)), some (.d (.str s.op.str)), some (.d (.str s.l.str)), some (.d (.str s.r.str)), j9, none, none], rfl, ?_⟩
    have pn : ∀ j : Nat, (places ++ [j]).map natI = places.map natI ++ [natI j] := fun j => by rw [List.map_append]; rfl
    cases hix : stepIx steps t.op.str t.l.str t.r.str with
    | some j =>
      rw [hix] at hany
      have hf : ((steps.map Stp.d).findIdx? fun z => PyData.eqv z t.d) = some j := by rw [htd', stepIx_find]; exact hix
      have sst : SeqAt.shaped (.tuple (steps.map Stp.d)) = true := (Nice.tup (k := 2) fun d hd => by
        obtain ⟨s, _, rfl⟩ := List.mem_map.mp hd
        exact s.nice.up (by decide)).shaped (by decide)
      simp only
      rw [pn]
      generalize hX : L0_put_together _ = X
      unfold L0_put_together at hX
      generalize (ledM names places s.l).str = L2 at *
      generalize (ledM names places s.r).str = R2 at *
      generalize s.op.str = OS at *
      generalize s.l.str = LS at *
      generalize s.r.str = RS at *
      generalize t.d = TD at *
      generalize names.map strD = NL at *
      generalize steps.map Stp.d = SL at *
      generalize places.map natI = PL at *
      rcases he3 with rfl | rfl <;>
      (simp only [e_nil, e_seq, e_fz, e_bk, e_ct, e_ret, e_retN, e_drop, e_set, e_if, e_for, e_cC, e_c2, e_c1, e_cA, e_aN, e_aC, e_cB, e_asB, e_bNot, e_bAnd, e_bOr, e_vAnd, e_vOr, e_vNot, e_vIf, e_bYes, e_iL, e_iT, e_iLb, e_iR, e_gL1, e_gL2, e_gL3, e_gT, e_gLb1, e_gLb2, e_gLb3, e_gLb4, e_nb1, e_nb2, e_bor1, e_bor2, e_bor3, e_bor4, e_arg1, e_arg2, e_arg3, e_arg4, e_putd, e_puto, e_toD1, e_toD2, e_allD0, e_allD1, e_allD2, e_gTupl, e_gList, e_tgnm, e_tgtp, e_tg0, e_tg1, e_sq1, e_sq2, e_sq3, e_sq4, e_sq5, e_qv2, e_qv3, e_qv4, e_qv5, e_data1, e_data2, e_data3, e_okI, e_okB, e_i2, e_sub, e_mul, e_mod, e_div, e_pow, e_lt, e_le, e_gt, e_ge, e_neg, e_addI, e_addS, e_addT, e_addL1, e_addL2, e_addL3, e_addL4, e_addL5, e_addL6, e_addL7, e_addL8, e_addL9, e_eq, e_ne, e_in, e_notIn, e_inT, e_inT2, e_inL1, e_inL2, e_inL3, e_is, e_isNot, e_isN1, e_isN2, e_isN3, e_isN4, e_isN5, e_isN6, e_isN7, e_ixT, e_ixL, e_ixO, e_ixB, e_ixSc, e_lenT, e_lenL, e_lenO, e_lenB, e_lenSc, e_lenS, e_tupT, e_tupL, e_tupO, e_tupB, e_lisT, e_lisL, e_lisO, e_lisB, e_min2, e_max2, e_any, e_all, e_sum, e_sorted, e_rev, e_sl, e_oN, e_isi, e_lc, e_wipe0, e_wipe1, e_iA, e_iAb, e_gAq1, e_gAq2, e_gAq3, e_gAqb1, e_gAqb2, e_gAqb3, e_gAqb4, e_no, e_cCh, e_cChI, e_aug, e_decT, e_decF, e_cDispS, e_cDT, e_cDK, e_cDisp1, e_storeA, e_stR1, e_stR2, e_stR3, e_sd1, e_keyD1, e_keyD2, e_keyTD, e_intsD, e_intsD0, e_borT, e_borT2, e_borK, e_borK2, e_argT, e_argT2, e_argK, e_argK2, e_nbT, e_nbK, e_putT, e_putK, e_gAt1, e_gAt2, e_gAt3, e_gAt4, e_gGetDK, e_gGetDT, e_gIxD, e_gInD, e_gNotInD, e_cGet1, e_cGet2, e_dk1, e_dk2, e_dk3, e_dk4, e_dt1, e_dt2, e_del, atI_zero, e_at1, e_at2, e_at3, e_at4, e_at5, e_at6, e_at7, e_at8, e_at9, e_atm, e_V, e_retV, e_unp, e_app, e_store, e_fzE, oS, rsO_some, Rs.bind_ok, Rs.bind_no, Rs.out_ok, Out.then_nx, Out.then_rt, Out.then_ct, Out.then_bk, fin_rt, fin_nx, List.getElem?_cons_zero, List.getElem?_cons_succ, List.set_cons_succ, List.set_cons_zero, List.length_cons, List.length_nil, Nat.reduceAdd, Nat.reduceLT, Nat.reduceLeDiff, Nat.reduceEqDiff, if_true, if_false, Bool.false_eq_true, Bool.not_true, Bool.not_false, and_self, true_and, and_true, List.map_cons, List.map_nil, Option.map_some, sh_int, sh_bool, sh_none, sh_tup, sh_lst, eqv_int, reduceIte, Option.bind_some, Option.bind_none, kitB_ll, kitB_lt, kitB_tt, kitB_tl, kitB_ii, tyD_list, tyD_int, Bool.true_and, Bool.false_and, Bool.and_true, Bool.and_false, Bool.or_true, Bool.true_or, Bool.false_or, Bool.or_false, Bool.and_self, Bool.or_self, e_cAK, List.append_nil, List.nil_append, List.cons_append, e_andB, e_orB, e_andR, e_orR, tyD_tuple, eqv_bool, eqv_none, tyD_bool, tyD_str, tyD_none, kitB_bb, kitB_nb, kitB_bi, kitB_ib, kitB_nl, kitB_nt, beq_self_eq_true, q1, q2, htd, hany, st1, ssh, Option.isSome_some, e_idxL, RV.qv, gIdxD, sst, hf, if_pos z2, RV.lv] at hX
       subst hX
       exact ⟨_, .inl rfl, _, _, _, _, _, .inr rfl, rfl⟩)
    | none =>
      rw [hix] at hany
      have hsn := stepIx_snoc hix
      have hmp : (steps ++ [t]).map Stp.d = steps.map Stp.d ++ [t.d] := by rw [List.map_append]; rfl
      have hf : ((steps.map Stp.d ++ [t.d]).findIdx? fun z => PyData.eqv z t.d) = some steps.length := by rw [← hmp, htd', stepIx_find]; exact hsn
      have sst : SeqAt.shaped (.tuple (steps.map Stp.d ++ [t.d])) = true := by
        rw [← hmp]
        exact (Nice.tup (k := 2) fun d hd => by
          obtain ⟨s, _, rfl⟩ := List.mem_map.mp hd
          exact s.nice.up (by decide)).shaped (by decide)
      have ssl : SeqAt.shaped (.list (steps.map Stp.d ++ [t.d])) = true := by
        rw [← hmp]
        exact (stps_nice (steps ++ [t])).shaped (by decide)
      simp only
      rw [pn, hmp]
      generalize hX : L0_put_together _ = X
      unfold L0_put_together at hX
      generalize (ledM names places s.l).str = L2 at *
      generalize (ledM names places s.r).str = R2 at *
      generalize s.op.str = OS at *
      generalize s.l.str = LS at *
      generalize s.r.str = RS at *
      generalize t.d = TD at *
      generalize names.map strD = NL at *
      generalize steps.map Stp.d = SL at *
      generalize places.map natI = PL at *
      rcases he3 with rfl | rfl <;>
      (simp only [e_nil, e_seq, e_fz, e_bk, e_ct, e_ret, e_retN, e_drop, e_set, e_if, e_for, e_cC, e_c2, e_c1, e_cA, e_aN, e_aC, e_cB, e_asB, e_bNot, e_bAnd, e_bOr, e_vAnd, e_vOr, e_vNot, e_vIf, e_bYes, e_iL, e_iT, e_iLb, e_iR, e_gL1, e_gL2, e_gL3, e_gT, e_gLb1, e_gLb2, e_gLb3, e_gLb4, e_nb1, e_nb2, e_bor1, e_bor2, e_bor3, e_bor4, e_arg1, e_arg2, e_arg3, e_arg4, e_putd, e_puto, e_toD1, e_toD2, e_allD0, e_allD1, e_allD2, e_gTupl, e_gList, e_tgnm, e_tgtp, e_tg0, e_tg1, e_sq1, e_sq2, e_sq3, e_sq4, e_sq5, e_qv2, e_qv3, e_qv4, e_qv5, e_data1, e_data2, e_data3, e_okI, e_okB, e_i2, e_sub, e_mul, e_mod, e_div, e_pow, e_lt, e_le, e_gt, e_ge, e_neg, e_addI, e_addS, e_addT, e_addL1, e_addL2, e_addL3, e_addL4, e_addL5, e_addL6, e_addL7, e_addL8, e_addL9, e_eq, e_ne, e_in, e_notIn, e_inT, e_inT2, e_inL1, e_inL2, e_inL3, e_is, e_isNot, e_isN1, e_isN2, e_isN3, e_isN4, e_isN5, e_isN6, e_isN7, e_ixT, e_ixL, e_ixO, e_ixB, e_ixSc, e_lenT, e_lenL, e_lenO, e_lenB, e_lenSc, e_lenS, e_tupT, e_tupL, e_tupO, e_tupB, e_lisT, e_lisL, e_lisO, e_lisB, e_min2, e_max2, e_any, e_all, e_sum, e_sorted, e_rev, e_sl, e_oN, e_isi, e_lc, e_wipe0, e_wipe1, e_iA, e_iAb, e_gAq1, e_gAq2, e_gAq3, e_gAqb1, e_gAqb2, e_gAqb3, e_gAqb4, e_no, e_cCh, e_cChI, e_aug, e_decT, e_decF, e_cDispS, e_cDT, e_cDK, e_cDisp1, e_storeA, e_stR1, e_stR2, e_stR3, e_sd1, e_keyD1, e_keyD2, e_keyTD, e_intsD, e_intsD0, e_borT, e_borT2, e_borK, e_borK2, e_argT, e_argT2, e_argK, e_argK2, e_nbT, e_nbK, e_putT, e_putK, e_gAt1, e_gAt2, e_gAt3, e_gAt4, e_gGetDK, e_gGetDT, e_gIxD, e_gInD, e_gNotInD, e_cGet1, e_cGet2, e_dk1, e_dk2, e_dk3, e_dk4, e_dt1, e_dt2, e_del, atI_zero, e_at1, e_at2, e_at3, e_at4, e_at5, e_at6, e_at7, e_at8, e_at9, e_atm, e_V, e_retV, e_unp, e_app, e_store, e_fzE, oS, rsO_some, Rs.bind_ok, Rs.bind_no, Rs.out_ok, Out.then_nx, Out.then_rt, Out.then_ct, Out.then_bk, fin_rt, fin_nx, List.getElem?_cons_zero, List.getElem?_cons_succ, List.set_cons_succ, List.set_cons_zero, List.length_cons, List.length_nil, Nat.reduceAdd, Nat.reduceLT, Nat.reduceLeDiff, Nat.reduceEqDiff, if_true, if_false, Bool.false_eq_true, Bool.not_true, Bool.not_false, and_self, true_and, and_true, List.map_cons, List.map_nil, Option.map_some, sh_int, sh_bool, sh_none, sh_tup, sh_lst, eqv_int, reduceIte, Option.bind_some, Option.bind_none, kitB_ll, kitB_lt, kitB_tt, kitB_tl, kitB_ii, tyD_list, tyD_int, Bool.true_and, Bool.false_and, Bool.and_true, Bool.and_false, Bool.or_true, Bool.true_or, Bool.false_or, Bool.or_false, Bool.and_self, Bool.or_self, e_cAK, List.append_nil, List.nil_append, List.cons_append, e_andB, e_orB, e_andR, e_orR, tyD_tuple, eqv_bool, eqv_none, tyD_bool, tyD_str, tyD_none, kitB_bb, kitB_nb, kitB_bi, kitB_ib, kitB_nl, kitB_nt, beq_self_eq_true, q1, q2, htd, hany, st1, ssh, Option.isSome_none, if_pos z1, e_idxL, RV.qv, gIdxD, sst, ssl, hf, if_pos z2, RV.lv] at hX
       subst hX
       exact ⟨_, .inl rfl, _, _, _, _, _, .inr rfl, rfl⟩)) ⟨_, none, none, none, none, .inl rfl, rfl⟩
  rw [List.take_length] at e1
  have hlc : ∀ e3 e4 e5 e6 e7 e8 e9, lcF (.nm 11) (cB (c2 gIs (cV 11) (cC .none))) (cV 11) [some (.d (progD m n (.tuple (ss.map Stp.d)) out)), some (.d (progD m2 n2 (.tuple (tt.map Stp.d)) out2)), some (.d (.tuple (ls.map lkD))), e3, e4, e5, e6, e7, e8, e9, none, none] (ls.map lkD) = .ok ((ls.filter fun l => l.isNone).map lkD) := fun e3 e4 e5 e6 e7 e8 e9 =>
    lcF_map lkD (fun l => l.isNone) lkD ls fun l _ => ⟨_, rfl, by cases l <;> rfl, fun _ => ⟨.d (lkD l), by cases l <;> rfl, rfl⟩⟩
  have z3 : (ls.map lkD).length ≤ 1000000 := by rw [List.length_map]; omega
  have hln : (((ls.filter fun l => l.isNone).map lkD).length : Int) = (noneC ls : Int) := by rw [List.length_map]; rfl
  have hgb : gAqb (.d (.tuple (ls.map lkD))) = .ok (ls.map lkD) := rfl
  have k1 : (n : Int) + (noneC ls : Int) = ((n + noneC ls : Nat) : Int) := by omega
  show (B_put_together [some (.d (progD m n (.tuple (ss.map Stp.d)) out)), some (.d (progD m2 n2 (.tuple (tt.map Stp.d)) out2)), some (.d (.tuple (ls.map lkD))), none, none, none, none, none, none, none, none, none]).fin = _
  unfold B_put_together
  generalize ((ls.filter fun l => l.isNone).map lkD) = FL at *
  generalize (joinM names ss tt).1.map Stp.d = JS at *
  generalize (joinM names ss tt).2.map natI = JP at *
  generalize names.map strD = NL at *
  generalize ls.map lkD = LL at *
  generalize tt.map Stp.d = TT at *
  generalize ss.map Stp.d = SS at *
  generalize progD m2 n2 (.tuple TT) out2 = P2 at *
  generalize progD m n (.tuple SS) out = PP at *
  simp only [e_nil, e_seq, e_fz, e_bk, e_ct, e_ret, e_retN, e_drop, e_set, e_if, e_for, e_cC, e_c2, e_c1, e_cA, e_aN, e_aC, e_cB, e_asB, e_bNot, e_bAnd, e_bOr, e_vAnd, e_vOr, e_vNot, e_vIf, e_bYes, e_iL, e_iT, e_iLb, e_iR, e_gL1, e_gL2, e_gL3, e_gT, e_gLb1, e_gLb2, e_gLb3, e_gLb4, e_nb1, e_nb2, e_bor1, e_bor2, e_bor3, e_bor4, e_arg1, e_arg2, e_arg3, e_arg4, e_putd, e_puto, e_toD1, e_toD2, e_allD0, e_allD1, e_allD2, e_gTupl, e_gList, e_tgnm, e_tgtp, e_tg0, e_tg1, e_sq1, e_sq2, e_sq3, e_sq4, e_sq5, e_qv2, e_qv3, e_qv4, e_qv5, e_data1, e_data2, e_data3, e_okI, e_okB, e_i2, e_sub, e_mul, e_mod, e_div, e_pow, e_lt, e_le, e_gt, e_ge, e_neg, e_addI, e_addS, e_addT, e_addL1, e_addL2, e_addL3, e_addL4, e_addL5, e_addL6, e_addL7, e_addL8, e_addL9, e_eq, e_ne, e_in, e_notIn, e_inT, e_inT2, e_inL1, e_inL2, e_inL3, e_is, e_isNot, e_isN1, e_isN2, e_isN3, e_isN4, e_isN5, e_isN6, e_isN7, e_ixT, e_ixL, e_ixO, e_ixB, e_ixSc, e_lenT, e_lenL, e_lenO, e_lenB, e_lenSc, e_lenS, e_tupT, e_tupL, e_tupO, e_tupB, e_lisT, e_lisL, e_lisO, e_lisB, e_min2, e_max2, e_any, e_all, e_sum, e_sorted, e_rev, e_sl, e_oN, e_isi, e_lc, e_wipe0, e_wipe1, e_iA, e_iAb, e_gAq1, e_gAq2, e_gAq3, e_gAqb1, e_gAqb2, e_gAqb3, e_gAqb4, e_no, e_cCh, e_cChI, e_aug, e_decT, e_decF, e_cDispS, e_cDT, e_cDK, e_cDisp1, e_storeA, e_stR1, e_stR2, e_stR3, e_sd1, e_keyD1, e_keyD2, e_keyTD, e_intsD, e_intsD0, e_borT, e_borT2, e_borK, e_borK2, e_argT, e_argT2, e_argK, e_argK2, e_nbT, e_nbK, e_putT, e_putK, e_gAt1, e_gAt2, e_gAt3, e_gAt4, e_gGetDK, e_gGetDT, e_gIxD, e_gInD, e_gNotInD, e_cGet1, e_cGet2, e_dk1, e_dk2, e_dk3, e_dk4, e_dt1, e_dt2, e_del, atI_zero, e_at1, e_at2, e_at3, e_at4, e_at5, e_at6, e_at7, e_at8, e_at9, e_atm, e_V, e_retV, e_unp, e_app, e_store, e_fzE, oS, rsO_some, Rs.bind_ok, Rs.bind_no, Rs.out_ok, Out.then_nx, Out.then_rt, Out.then_ct, Out.then_bk, fin_rt, fin_nx, List.getElem?_cons_zero, List.getElem?_cons_succ, List.set_cons_succ, List.set_cons_zero, List.length_cons, List.length_nil, Nat.reduceAdd, Nat.reduceLT, Nat.reduceLeDiff, Nat.reduceEqDiff, if_true, if_false, Bool.false_eq_true, Bool.not_true, Bool.not_false, and_self, true_and, and_true, List.map_cons, List.map_nil, Option.map_some, sh_int, sh_bool, sh_none, sh_tup, sh_lst, eqv_int, reduceIte, Option.bind_some, Option.bind_none, kitB_ll, kitB_lt, kitB_tt, kitB_tl, kitB_ii, tyD_list, tyD_int, Bool.true_and, Bool.false_and, Bool.and_true, Bool.and_false, Bool.or_true, Bool.true_or, Bool.false_or, Bool.or_false, Bool.and_self, Bool.or_self, e_cAK, List.append_nil, List.nil_append, List.cons_append, e_andB, e_orB, e_andR, e_orR, tyD_tuple, eqv_bool, eqv_none, tyD_bool, tyD_str, tyD_none, kitB_bb, kitB_nb, kitB_bi, kitB_ib, kitB_nl, kitB_nt, beq_self_eq_true, p1, h2, h1, h4, e_iA, hi, e1, hgb, if_pos z3, hlc, hln, k1]
end
/-! ### joined, and its faults -/
def badl (os : List Nat) : Option Nat → Bool
  | none => false
  | some k => !decide (k ∈ os)
def wrongL (os : List Nat) : Nat → List (Option Nat) → Option Nat
  | _, [] => none
  | k, l :: r => if badl os l = true then some k else wrongL os (k + 1) r
def faultJ (m n m2 : Nat) (os : List Nat) (ls : List (Option Nat)) (steps : List Stp) : Option (Str × Int) :=
  if m ≠ m2 then some ("other modulus", -1) else match wrongL os 0 ls with
    | some k => some ("wrong link", (k : Int))
    | none => if 6 < n + noneC ls then some ("too many inputs", -1) else if 8 < steps.length then some ("too many steps", -1) else none
def fltD : Option (Str × Int) → PyData
  | none => .none
  | some (w, x) => .tuple [.str w, .int x]
theorem fld2 : ∀ a b : PyData, fldD [(("place" : Str), 1), (("what" : Str), 0)] [a, b] = some [(("place" : Str), b), (("what" : Str), a)] := fun _ _ => rfl
theorem wrong_none {os : List Nat} : ∀ {ls : List (Option Nat)} {k : Nat}, wrongL os k ls = none → ∀ j, some j ∈ ls → j ∈ os
  | [], _, _, j, h => by cases h
  | l :: r, k, h, j, hj => by
    unfold wrongL at h
    split at h
    · cases h
    · rename_i hb
      rcases List.mem_cons.mp hj with z | z
      · rw [← z] at hb
        have : ¬ (!decide (j ∈ os)) = true := hb
        simpa using this
      · exact wrong_none h j z
section
variable {P : PyData} {os : List Nat} {ls : List (Option Nat)}
theorem lk_at {k : Nat} {l : Option Nat} (h : ls[k]? = some l) : atI (ls.map lkD) (k : Int) = some (lkD l) := by
  have hk := (List.getElem?_eq_some_iff.mp h).1
  rw [atI_cons _ _ (by rw [List.length_map]; exact hk), List.getElem?_map, h]
  rfl
theorem cl_loop (h3 : gIx (.d P) (.d (.int 3)) = .ok (.d (.tuple (os.map natI)))) (e1 : Option RV) : ∀ (r : List (Option Nat)) (k : Nat) (e3 : Option RV), ls.drop k = r →
    match wrongL os k r with
    | some j => ∃ env', loopF (.nm 3) L0_check_links ((List.range' k r.length).map natI) [some (.d P), e1, some (.d (.tuple (ls.map lkD))), e3] = .ex 3 [("place", .int (j : Int)), ("what", .str "wrong link")] env'
    | none => ∃ e3', loopF (.nm 3) L0_check_links ((List.range' k r.length).map natI) [some (.d P), e1, some (.d (.tuple (ls.map lkD))), e3] = .nx [some (.d P), e1, some (.d (.tuple (ls.map lkD))), e3']
  | [], k, e3, _ => ⟨e3, rfl⟩
  | l :: r, k, e3, hd => by
    have hk : ls[k]? = some l := by
      have := congrArg (fun l => l[0]?) hd
      simpa using this
    have hat := lk_at hk
    have ih := cl_loop h3 e1 r (k + 1) (some (.d (.int (k : Int)))) (by rw [← List.drop_drop, hd]; rfl)
    have ht : tgE (.nm 3) (natI k) [some (.d P), e1, some (.d (.tuple (ls.map lkD))), e3] = some [some (.d P), e1, some (.d (.tuple (ls.map lkD))), some (.d (.int (k : Int)))] := rfl
    rw [List.length_cons, List.range'_succ, List.map_cons, loopF_cons, ht]
    have hw : wrongL os k (l :: r) = if badl os l = true then some k else wrongL os (k + 1) r := rfl
    rw [hw]
    have hs := sh_natsT os
    cases l with
    | none =>
      have hb : L0_check_links [some (.d P), e1, some (.d (.tuple (ls.map lkD))), some (.d (.int (k : Int)))] = .nx [some (.d P), e1, some (.d (.tuple (ls.map lkD))), some (.d (.int (k : Int)))] := by
        have hat : atI (ls.map lkD) (k : Int) = some .none := hat
        unfold L0_check_links
        generalize ls.map lkD = LL at *
        simp only [e_nil, e_seq, e_fz, e_bk, e_ct, e_ret, e_retN, e_drop, e_set, e_if, e_for, e_cC, e_c2, e_c1, e_cA, e_aN, e_aC, e_cB, e_asB, e_bNot, e_bAnd, e_bOr, e_vAnd, e_vOr, e_vNot, e_vIf, e_bYes, e_iL, e_iT, e_iLb, e_iR, e_gL1, e_gL2, e_gL3, e_gT, e_gLb1, e_gLb2, e_gLb3, e_gLb4, e_nb1, e_nb2, e_bor1, e_bor2, e_bor3, e_bor4, e_arg1, e_arg2, e_arg3, e_arg4, e_putd, e_puto, e_toD1, e_toD2, e_allD0, e_allD1, e_allD2, e_gTupl, e_gList, e_tgnm, e_tgtp, e_tg0, e_tg1, e_sq1, e_sq2, e_sq3, e_sq4, e_sq5, e_qv2, e_qv3, e_qv4, e_qv5, e_data1, e_data2, e_data3, e_okI, e_okB, e_i2, e_sub, e_mul, e_mod, e_div, e_pow, e_lt, e_le, e_gt, e_ge, e_neg, e_addI, e_addS, e_addT, e_addL1, e_addL2, e_addL3, e_addL4, e_addL5, e_addL6, e_addL7, e_addL8, e_addL9, e_eq, e_ne, e_in, e_notIn, e_inT, e_inT2, e_inL1, e_inL2, e_inL3, e_is, e_isNot, e_isN1, e_isN2, e_isN3, e_isN4, e_isN5, e_isN6, e_isN7, e_ixT, e_ixL, e_ixO, e_ixB, e_ixSc, e_lenT, e_lenL, e_lenO, e_lenB, e_lenSc, e_lenS, e_tupT, e_tupL, e_tupO, e_tupB, e_lisT, e_lisL, e_lisO, e_lisB, e_min2, e_max2, e_any, e_all, e_sum, e_sorted, e_rev, e_sl, e_oN, e_isi, e_lc, e_wipe0, e_wipe1, e_iA, e_iAb, e_gAq1, e_gAq2, e_gAq3, e_gAqb1, e_gAqb2, e_gAqb3, e_gAqb4, e_no, e_cCh, e_cChI, e_aug, e_decT, e_decF, e_cDispS, e_cDT, e_cDK, e_cDisp1, e_storeA, e_stR1, e_stR2, e_stR3, e_sd1, e_keyD1, e_keyD2, e_keyTD, e_intsD, e_intsD0, e_borT, e_borT2, e_borK, e_borK2, e_argT, e_argT2, e_argK, e_argK2, e_nbT, e_nbK, e_putT, e_putK, e_gAt1, e_gAt2, e_gAt3, e_gAt4, e_gGetDK, e_gGetDT, e_gIxD, e_gInD, e_gNotInD, e_cGet1, e_cGet2, e_dk1, e_dk2, e_dk3, e_dk4, e_dt1, e_dt2, e_del, atI_zero, e_at1, e_at2, e_at3, e_at4, e_at5, e_at6, e_at7, e_at8, e_at9, e_atm, e_V, e_retV, e_unp, e_app, e_store, e_fzE, oS, rsO_some, Rs.bind_ok, Rs.bind_no, Rs.out_ok, Out.then_nx, Out.then_rt, Out.then_ct, Out.then_bk, fin_rt, fin_nx, List.getElem?_cons_zero, List.getElem?_cons_succ, List.set_cons_succ, List.set_cons_zero, List.length_cons, List.length_nil, Nat.reduceAdd, Nat.reduceLT, Nat.reduceLeDiff, Nat.reduceEqDiff, if_true, if_false, Bool.false_eq_true, Bool.not_true, Bool.not_false, and_self, true_and, and_true, List.map_cons, List.map_nil, Option.map_some, sh_int, sh_bool, sh_none, sh_tup, sh_lst, eqv_int, reduceIte, Option.bind_some, Option.bind_none, kitB_ll, kitB_lt, kitB_tt, kitB_tl, kitB_ii, tyD_list, tyD_int, Bool.true_and, Bool.false_and, Bool.and_true, Bool.and_false, Bool.or_true, Bool.true_or, Bool.false_or, Bool.or_false, Bool.and_self, Bool.or_self, e_cAK, List.append_nil, List.nil_append, List.cons_append, e_andB, e_orB, e_andR, e_orR, tyD_tuple, eqv_bool, eqv_none, tyD_bool, tyD_str, tyD_none, kitB_bb, kitB_nb, kitB_bi, kitB_ib, kitB_nl, kitB_nt, beq_self_eq_true, hat, isNone]
      rw [if_neg (show ¬ badl os none = true from fun z => by cases z)]
      simp only [hb, lp_nx]
      exact ih
    | some j =>
      have hat : atI (ls.map lkD) (k : Int) = some (.int (j : Int)) := hat
      have hn := nat_any os j
      by_cases c : j ∈ os
      · rw [decide_eq_true c] at hn
        rw [if_neg (show ¬ badl os (some j) = true by show ¬ (!decide (j ∈ os)) = true; rw [decide_eq_true c]; decide)]
        have hb : L0_check_links [some (.d P), e1, some (.d (.tuple (ls.map lkD))), some (.d (.int (k : Int)))] = .nx [some (.d P), e1, some (.d (.tuple (ls.map lkD))), some (.d (.int (k : Int)))] := by
          unfold L0_check_links
          generalize ls.map lkD = LL at *
          generalize os.map natI = OO at *
          simp only [e_nil, e_seq, e_fz, e_bk, e_ct, e_ret, e_retN, e_drop, e_set, e_if, e_for, e_cC, e_c2, e_c1, e_cA, e_aN, e_aC, e_cB, e_asB, e_bNot, e_bAnd, e_bOr, e_vAnd, e_vOr, e_vNot, e_vIf, e_bYes, e_iL, e_iT, e_iLb, e_iR, e_gL1, e_gL2, e_gL3, e_gT, e_gLb1, e_gLb2, e_gLb3, e_gLb4, e_nb1, e_nb2, e_bor1, e_bor2, e_bor3, e_bor4, e_arg1, e_arg2, e_arg3, e_arg4, e_putd, e_puto, e_toD1, e_toD2, e_allD0, e_allD1, e_allD2, e_gTupl, e_gList, e_tgnm, e_tgtp, e_tg0, e_tg1, e_sq1, e_sq2, e_sq3, e_sq4, e_sq5, e_qv2, e_qv3, e_qv4, e_qv5, e_data1, e_data2, e_data3, e_okI, e_okB, e_i2, e_sub, e_mul, e_mod, e_div, e_pow, e_lt, e_le, e_gt, e_ge, e_neg, e_addI, e_addS, e_addT, e_addL1, e_addL2, e_addL3, e_addL4, e_addL5, e_addL6, e_addL7, e_addL8, e_addL9, e_eq, e_ne, e_in, e_notIn, e_inT, e_inT2, e_inL1, e_inL2, e_inL3, e_is, e_isNot, e_isN1, e_isN2, e_isN3, e_isN4, e_isN5, e_isN6, e_isN7, e_ixT, e_ixL, e_ixO, e_ixB, e_ixSc, e_lenT, e_lenL, e_lenO, e_lenB, e_lenSc, e_lenS, e_tupT, e_tupL, e_tupO, e_tupB, e_lisT, e_lisL, e_lisO, e_lisB, e_min2, e_max2, e_any, e_all, e_sum, e_sorted, e_rev, e_sl, e_oN, e_isi, e_lc, e_wipe0, e_wipe1, e_iA, e_iAb, e_gAq1, e_gAq2, e_gAq3, e_gAqb1, e_gAqb2, e_gAqb3, e_gAqb4, e_no, e_cCh, e_cChI, e_aug, e_decT, e_decF, e_cDispS, e_cDT, e_cDK, e_cDisp1, e_storeA, e_stR1, e_stR2, e_stR3, e_sd1, e_keyD1, e_keyD2, e_keyTD, e_intsD, e_intsD0, e_borT, e_borT2, e_borK, e_borK2, e_argT, e_argT2, e_argK, e_argK2, e_nbT, e_nbK, e_putT, e_putK, e_gAt1, e_gAt2, e_gAt3, e_gAt4, e_gGetDK, e_gGetDT, e_gIxD, e_gInD, e_gNotInD, e_cGet1, e_cGet2, e_dk1, e_dk2, e_dk3, e_dk4, e_dt1, e_dt2, e_del, atI_zero, e_at1, e_at2, e_at3, e_at4, e_at5, e_at6, e_at7, e_at8, e_at9, e_atm, e_V, e_retV, e_unp, e_app, e_store, e_fzE, oS, rsO_some, Rs.bind_ok, Rs.bind_no, Rs.out_ok, Out.then_nx, Out.then_rt, Out.then_ct, Out.then_bk, fin_rt, fin_nx, List.getElem?_cons_zero, List.getElem?_cons_succ, List.set_cons_succ, List.set_cons_zero, List.length_cons, List.length_nil, Nat.reduceAdd, Nat.reduceLT, Nat.reduceLeDiff, Nat.reduceEqDiff, if_true, if_false, Bool.false_eq_true, Bool.not_true, Bool.not_false, and_self, true_and, and_true, List.map_cons, List.map_nil, Option.map_some, sh_int, sh_bool, sh_none, sh_tup, sh_lst, eqv_int, reduceIte, Option.bind_some, Option.bind_none, kitB_ll, kitB_lt, kitB_tt, kitB_tl, kitB_ii, tyD_list, tyD_int, Bool.true_and, Bool.false_and, Bool.and_true, Bool.and_false, Bool.or_true, Bool.true_or, Bool.false_or, Bool.or_false, Bool.and_self, Bool.or_self, e_cAK, List.append_nil, List.nil_append, List.cons_append, e_andB, e_orB, e_andR, e_orR, tyD_tuple, eqv_bool, eqv_none, tyD_bool, tyD_str, tyD_none, kitB_bb, kitB_nb, kitB_bi, kitB_ib, kitB_nl, kitB_nt, beq_self_eq_true, hat, isNone, h3, hs, hn]
        simp only [hb, lp_nx]
        exact ih
      · rw [decide_eq_false c] at hn
        rw [if_pos (show badl os (some j) = true by show (!decide (j ∈ os)) = true; rw [decide_eq_false c]; rfl)]
        refine ⟨[some (.d P), e1, some (.d (.tuple (ls.map lkD))), some (.d (.int (k : Int)))], ?_⟩
        have hb : L0_check_links [some (.d P), e1, some (.d (.tuple (ls.map lkD))), some (.d (.int (k : Int)))] = .ex 3 [("place", .int (k : Int)), ("what", .str "wrong link")] [some (.d P), e1, some (.d (.tuple (ls.map lkD))), some (.d (.int (k : Int)))] := by
          unfold L0_check_links
          generalize ls.map lkD = LL at *
          generalize os.map natI = OO at *
          simp only [e_nil, e_seq, e_fz, e_bk, e_ct, e_ret, e_retN, e_drop, e_set, e_if, e_for, e_cC, e_c2, e_c1, e_cA, e_aN, e_aC, e_cB, e_asB, e_bNot, e_bAnd, e_bOr, e_vAnd, e_vOr, e_vNot, e_vIf, e_bYes, e_iL, e_iT, e_iLb, e_iR, e_gL1, e_gL2, e_gL3, e_gT, e_gLb1, e_gLb2, e_gLb3, e_gLb4, e_nb1, e_nb2, e_bor1, e_bor2, e_bor3, e_bor4, e_arg1, e_arg2, e_arg3, e_arg4, e_putd, e_puto, e_toD1, e_toD2, e_allD0, e_allD1, e_allD2, e_gTupl, e_gList, e_tgnm, e_tgtp, e_tg0, e_tg1, e_sq1, e_sq2, e_sq3, e_sq4, e_sq5, e_qv2, e_qv3, e_qv4, e_qv5, e_data1, e_data2, e_data3, e_okI, e_okB, e_i2, e_sub, e_mul, e_mod, e_div, e_pow, e_lt, e_le, e_gt, e_ge, e_neg, e_addI, e_addS, e_addT, e_addL1, e_addL2, e_addL3, e_addL4, e_addL5, e_addL6, e_addL7, e_addL8, e_addL9, e_eq, e_ne, e_in, e_notIn, e_inT, e_inT2, e_inL1, e_inL2, e_inL3, e_is, e_isNot, e_isN1, e_isN2, e_isN3, e_isN4, e_isN5, e_isN6, e_isN7, e_ixT, e_ixL, e_ixO, e_ixB, e_ixSc, e_lenT, e_lenL, e_lenO, e_lenB, e_lenSc, e_lenS, e_tupT, e_tupL, e_tupO, e_tupB, e_lisT, e_lisL, e_lisO, e_lisB, e_min2, e_max2, e_any, e_all, e_sum, e_sorted, e_rev, e_sl, e_oN, e_isi, e_lc, e_wipe0, e_wipe1, e_iA, e_iAb, e_gAq1, e_gAq2, e_gAq3, e_gAqb1, e_gAqb2, e_gAqb3, e_gAqb4, e_no, e_cCh, e_cChI, e_aug, e_decT, e_decF, e_cDispS, e_cDT, e_cDK, e_cDisp1, e_storeA, e_stR1, e_stR2, e_stR3, e_sd1, e_keyD1, e_keyD2, e_keyTD, e_intsD, e_intsD0, e_borT, e_borT2, e_borK, e_borK2, e_argT, e_argT2, e_argK, e_argK2, e_nbT, e_nbK, e_putT, e_putK, e_gAt1, e_gAt2, e_gAt3, e_gAt4, e_gGetDK, e_gGetDT, e_gIxD, e_gInD, e_gNotInD, e_cGet1, e_cGet2, e_dk1, e_dk2, e_dk3, e_dk4, e_dt1, e_dt2, e_del, atI_zero, e_at1, e_at2, e_at3, e_at4, e_at5, e_at6, e_at7, e_at8, e_at9, e_atm, e_V, e_retV, e_unp, e_app, e_store, e_fzE, oS, rsO_some, Rs.bind_ok, Rs.bind_no, Rs.out_ok, Out.then_nx, Out.then_rt, Out.then_ct, Out.then_bk, fin_rt, fin_nx, List.getElem?_cons_zero, List.getElem?_cons_succ, List.set_cons_succ, List.set_cons_zero, List.length_cons, List.length_nil, Nat.reduceAdd, Nat.reduceLT, Nat.reduceLeDiff, Nat.reduceEqDiff, if_true, if_false, Bool.false_eq_true, Bool.not_true, Bool.not_false, and_self, true_and, and_true, List.map_cons, List.map_nil, Option.map_some, sh_int, sh_bool, sh_none, sh_tup, sh_lst, eqv_int, reduceIte, Option.bind_some, Option.bind_none, kitB_ll, kitB_lt, kitB_tt, kitB_tl, kitB_ii, tyD_list, tyD_int, Bool.true_and, Bool.false_and, Bool.and_true, Bool.and_false, Bool.or_true, Bool.true_or, Bool.false_or, Bool.or_false, Bool.and_self, Bool.or_self, e_cAK, List.append_nil, List.nil_append, List.cons_append, e_andB, e_orB, e_andR, e_orR, tyD_tuple, eqv_bool, eqv_none, tyD_bool, tyD_str, tyD_none, kitB_bb, kitB_nb, kitB_bi, kitB_ib, kitB_nl, kitB_nt, beq_self_eq_true, hat, isNone, h3, hs, hn, e_raise, fld2, Out.then_ex]
        simp only [hb]
        rfl
end
def outsJ (places os os2 : List Nat) (keep : Bool) : List Nat := os2.map (fun o => places.getD o 0) ++ (if keep = true then os else [])
def ordM (k : Nat) (outs : List Nat) : List Nat := (List.range k).filter fun j => decide (j ∈ outs)
theorem ord_more {k l : Nat} {outs : List Nat} (h : ∀ o ∈ outs, o < k) (hl : k ≤ l) : ordM l outs = ordM k outs := by
  obtain ⟨d, rfl⟩ : ∃ d, l = k + d := ⟨l - k, by omega⟩
  unfold ordM
  rw [List.range_add, List.filter_append]
  have : ((List.range d).map fun x => k + x).filter (fun j => decide (j ∈ outs)) = [] := by
    rw [List.filter_eq_nil_iff]
    intro j hj
    obtain ⟨x, _, rfl⟩ := List.mem_map.mp hj
    intro z
    have := h _ (of_decide_eq_true z)
    omega
  rw [this, List.append_nil]
def joinedD (m n : Nat) (ls : List (Option Nat)) (st : List Stp × List Nat) (os os2 : List Nat) (keep : Bool) : PyData :=
  .tuple [.int (m : Int), .int ((n + noneC ls : Nat) : Int), .tuple (st.1.map Stp.d), .tuple ((ordM st.1.length (outsJ st.2 os os2 keep)).map natI)]
section
variable {m n m2 n2 : Nat} {ss tt : List Stp} {os os2 : List Nat} {ls : List (Option Nat)}
theorem check_ok (P2d : PyData) (hls : ls.length ≤ 1000) (h0' : gIx (.d P2d) (.d (.int 0)) = .ok (.d (.int (m2 : Int)))) :
    F_check_links [.d (progD m n (.tuple (ss.map Stp.d)) (.tuple (os.map natI))), .d P2d, .d (.tuple (ls.map lkD))] =
      if m ≠ m2 then .ex 3 [("place", .int (-1)), ("what", .str "other modulus")] else match wrongL os 0 ls with
        | some k => .ex 3 [("place", .int (k : Int)), ("what", .str "wrong link")]
        | none => .ok (.d .none) := by
  have h0 : gIx (.d (progD m n (.tuple (ss.map Stp.d)) (.tuple (os.map natI)))) (.d (.int 0)) = .ok (.d (.int (m : Int))) := rfl
  have h3 : gIx (.d (progD m n (.tuple (ss.map Stp.d)) (.tuple (os.map natI)))) (.d (.int 3)) = .ok (.d (.tuple (os.map natI))) := rfl
  have lp := cl_loop (ls := ls) h3 (some (.d P2d)) ls 0 none rfl
  have hrn := e_R1n (n := ls.length) (by omega)
  rw [rng_nat, List.range_eq_range'] at hrn
  have hL : gLen [.d (.tuple (ls.map lkD))] = .ok (.d (.int (ls.length : Int))) := by rw [e_lenT, List.length_map]
  show (B_check_links [some (.d (progD m n (.tuple (ss.map Stp.d)) (.tuple (os.map natI)))), some (.d P2d), some (.d (.tuple (ls.map lkD))), none]).fin = _
  unfold B_check_links
  by_cases c0 : m = m2
  · have d0 : (!decide ((m : Int) = (m2 : Int))) = false := by rw [decide_eq_true (by rw [c0])]; rfl
    rw [if_neg (fun z => z c0)]
    cases hw : wrongL os 0 ls with
    | some k =>
      rw [hw] at lp
      obtain ⟨env', lp⟩ := lp
      simp only
      generalize ls.map lkD = LL at *
      generalize progD m n (.tuple (ss.map Stp.d)) (.tuple (os.map natI)) = PP at *
      simp only [e_nil, e_seq, e_fz, e_bk, e_ct, e_ret, e_retN, e_drop, e_set, e_if, e_for, e_cC, e_c2, e_c1, e_cA, e_aN, e_aC, e_cB, e_asB, e_bNot, e_bAnd, e_bOr, e_vAnd, e_vOr, e_vNot, e_vIf, e_bYes, e_iL, e_iT, e_iLb, e_iR, e_gL1, e_gL2, e_gL3, e_gT, e_gLb1, e_gLb2, e_gLb3, e_gLb4, e_nb1, e_nb2, e_bor1, e_bor2, e_bor3, e_bor4, e_arg1, e_arg2, e_arg3, e_arg4, e_putd, e_puto, e_toD1, e_toD2, e_allD0, e_allD1, e_allD2, e_gTupl, e_gList, e_tgnm, e_tgtp, e_tg0, e_tg1, e_sq1, e_sq2, e_sq3, e_sq4, e_sq5, e_qv2, e_qv3, e_qv4, e_qv5, e_data1, e_data2, e_data3, e_okI, e_okB, e_i2, e_sub, e_mul, e_mod, e_div, e_pow, e_lt, e_le, e_gt, e_ge, e_neg, e_addI, e_addS, e_addT, e_addL1, e_addL2, e_addL3, e_addL4, e_addL5, e_addL6, e_addL7, e_addL8, e_addL9, e_eq, e_ne, e_in, e_notIn, e_inT, e_inT2, e_inL1, e_inL2, e_inL3, e_is, e_isNot, e_isN1, e_isN2, e_isN3, e_isN4, e_isN5, e_isN6, e_isN7, e_ixT, e_ixL, e_ixO, e_ixB, e_ixSc, e_lenT, e_lenL, e_lenO, e_lenB, e_lenSc, e_lenS, e_tupT, e_tupL, e_tupO, e_tupB, e_lisT, e_lisL, e_lisO, e_lisB, e_min2, e_max2, e_any, e_all, e_sum, e_sorted, e_rev, e_sl, e_oN, e_isi, e_lc, e_wipe0, e_wipe1, e_iA, e_iAb, e_gAq1, e_gAq2, e_gAq3, e_gAqb1, e_gAqb2, e_gAqb3, e_gAqb4, e_no, e_cCh, e_cChI, e_aug, e_decT, e_decF, e_cDispS, e_cDT, e_cDK, e_cDisp1, e_storeA, e_stR1, e_stR2, e_stR3, e_sd1, e_keyD1, e_keyD2, e_keyTD, e_intsD, e_intsD0, e_borT, e_borT2, e_borK, e_borK2, e_argT, e_argT2, e_argK, e_argK2, e_nbT, e_nbK, e_putT, e_putK, e_gAt1, e_gAt2, e_gAt3, e_gAt4, e_gGetDK, e_gGetDT, e_gIxD, e_gInD, e_gNotInD, e_cGet1, e_cGet2, e_dk1, e_dk2, e_dk3, e_dk4, e_dt1, e_dt2, e_del, atI_zero, e_at1, e_at2, e_at3, e_at4, e_at5, e_at6, e_at7, e_at8, e_at9, e_atm, e_V, e_retV, e_unp, e_app, e_store, e_fzE, oS, rsO_some, Rs.bind_ok, Rs.bind_no, Rs.out_ok, Out.then_nx, Out.then_rt, Out.then_ct, Out.then_bk, fin_rt, fin_nx, List.getElem?_cons_zero, List.getElem?_cons_succ, List.set_cons_succ, List.set_cons_zero, List.length_cons, List.length_nil, Nat.reduceAdd, Nat.reduceLT, Nat.reduceLeDiff, Nat.reduceEqDiff, if_true, if_false, Bool.false_eq_true, Bool.not_true, Bool.not_false, and_self, true_and, and_true, List.map_cons, List.map_nil, Option.map_some, sh_int, sh_bool, sh_none, sh_tup, sh_lst, eqv_int, reduceIte, Option.bind_some, Option.bind_none, kitB_ll, kitB_lt, kitB_tt, kitB_tl, kitB_ii, tyD_list, tyD_int, Bool.true_and, Bool.false_and, Bool.and_true, Bool.and_false, Bool.or_true, Bool.true_or, Bool.false_or, Bool.or_false, Bool.and_self, Bool.or_self, e_cAK, List.append_nil, List.nil_append, List.cons_append, e_andB, e_orB, e_andR, e_orR, tyD_tuple, eqv_bool, eqv_none, tyD_bool, tyD_str, tyD_none, kitB_bb, kitB_nb, kitB_bi, kitB_ib, kitB_nl, kitB_nt, beq_self_eq_true, h0, h0', d0, hL, hrn, lp]
      rfl
    | none =>
      rw [hw] at lp
      obtain ⟨e3', lp⟩ := lp
      simp only
      generalize ls.map lkD = LL at *
      generalize progD m n (.tuple (ss.map Stp.d)) (.tuple (os.map natI)) = PP at *
      simp only [e_nil, e_seq, e_fz, e_bk, e_ct, e_ret, e_retN, e_drop, e_set, e_if, e_for, e_cC, e_c2, e_c1, e_cA, e_aN, e_aC, e_cB, e_asB, e_bNot, e_bAnd, e_bOr, e_vAnd, e_vOr, e_vNot, e_vIf, e_bYes, e_iL, e_iT, e_iLb, e_iR, e_gL1, e_gL2, e_gL3, e_gT, e_gLb1, e_gLb2, e_gLb3, e_gLb4, e_nb1, e_nb2, e_bor1, e_bor2, e_bor3, e_bor4, e_arg1, e_arg2, e_arg3, e_arg4, e_putd, e_puto, e_toD1, e_toD2, e_allD0, e_allD1, e_allD2, e_gTupl, e_gList, e_tgnm, e_tgtp, e_tg0, e_tg1, e_sq1, e_sq2, e_sq3, e_sq4, e_sq5, e_qv2, e_qv3, e_qv4, e_qv5, e_data1, e_data2, e_data3, e_okI, e_okB, e_i2, e_sub, e_mul, e_mod, e_div, e_pow, e_lt, e_le, e_gt, e_ge, e_neg, e_addI, e_addS, e_addT, e_addL1, e_addL2, e_addL3, e_addL4, e_addL5, e_addL6, e_addL7, e_addL8, e_addL9, e_eq, e_ne, e_in, e_notIn, e_inT, e_inT2, e_inL1, e_inL2, e_inL3, e_is, e_isNot, e_isN1, e_isN2, e_isN3, e_isN4, e_isN5, e_isN6, e_isN7, e_ixT, e_ixL, e_ixO, e_ixB, e_ixSc, e_lenT, e_lenL, e_lenO, e_lenB, e_lenSc, e_lenS, e_tupT, e_tupL, e_tupO, e_tupB, e_lisT, e_lisL, e_lisO, e_lisB, e_min2, e_max2, e_any, e_all, e_sum, e_sorted, e_rev, e_sl, e_oN, e_isi, e_lc, e_wipe0, e_wipe1, e_iA, e_iAb, e_gAq1, e_gAq2, e_gAq3, e_gAqb1, e_gAqb2, e_gAqb3, e_gAqb4, e_no, e_cCh, e_cChI, e_aug, e_decT, e_decF, e_cDispS, e_cDT, e_cDK, e_cDisp1, e_storeA, e_stR1, e_stR2, e_stR3, e_sd1, e_keyD1, e_keyD2, e_keyTD, e_intsD, e_intsD0, e_borT, e_borT2, e_borK, e_borK2, e_argT, e_argT2, e_argK, e_argK2, e_nbT, e_nbK, e_putT, e_putK, e_gAt1, e_gAt2, e_gAt3, e_gAt4, e_gGetDK, e_gGetDT, e_gIxD, e_gInD, e_gNotInD, e_cGet1, e_cGet2, e_dk1, e_dk2, e_dk3, e_dk4, e_dt1, e_dt2, e_del, atI_zero, e_at1, e_at2, e_at3, e_at4, e_at5, e_at6, e_at7, e_at8, e_at9, e_atm, e_V, e_retV, e_unp, e_app, e_store, e_fzE, oS, rsO_some, Rs.bind_ok, Rs.bind_no, Rs.out_ok, Out.then_nx, Out.then_rt, Out.then_ct, Out.then_bk, fin_rt, fin_nx, List.getElem?_cons_zero, List.getElem?_cons_succ, List.set_cons_succ, List.set_cons_zero, List.length_cons, List.length_nil, Nat.reduceAdd, Nat.reduceLT, Nat.reduceLeDiff, Nat.reduceEqDiff, if_true, if_false, Bool.false_eq_true, Bool.not_true, Bool.not_false, and_self, true_and, and_true, List.map_cons, List.map_nil, Option.map_some, sh_int, sh_bool, sh_none, sh_tup, sh_lst, eqv_int, reduceIte, Option.bind_some, Option.bind_none, kitB_ll, kitB_lt, kitB_tt, kitB_tl, kitB_ii, tyD_list, tyD_int, Bool.true_and, Bool.false_and, Bool.and_true, Bool.and_false, Bool.or_true, Bool.true_or, Bool.false_or, Bool.or_false, Bool.and_self, Bool.or_self, e_cAK, List.append_nil, List.nil_append, List.cons_append, e_andB, e_orB, e_andR, e_orR, tyD_tuple, eqv_bool, eqv_none, tyD_bool, tyD_str, tyD_none, kitB_bb, kitB_nb, kitB_bi, kitB_ib, kitB_nl, kitB_nt, beq_self_eq_true, h0, h0', d0, hL, hrn, lp]
  · have d0 : (!decide ((m : Int) = (m2 : Int))) = true := by rw [decide_eq_false (by omega)]; rfl
    rw [if_pos c0]
    generalize ls.map lkD = LL at *
    generalize progD m n (.tuple (ss.map Stp.d)) (.tuple (os.map natI)) = PP at *
    simp only [e_nil, e_seq, e_fz, e_bk, e_ct, e_ret, e_retN, e_drop, e_set, e_if, e_for, e_cC, e_c2, e_c1, e_cA, e_aN, e_aC, e_cB, e_asB, e_bNot, e_bAnd, e_bOr, e_vAnd, e_vOr, e_vNot, e_vIf, e_bYes, e_iL, e_iT, e_iLb, e_iR, e_gL1, e_gL2, e_gL3, e_gT, e_gLb1, e_gLb2, e_gLb3, e_gLb4, e_nb1, e_nb2, e_bor1, e_bor2, e_bor3, e_bor4, e_arg1, e_arg2, e_arg3, e_arg4, e_putd, e_puto, e_toD1, e_toD2, e_allD0, e_allD1, e_allD2, e_gTupl, e_gList, e_tgnm, e_tgtp, e_tg0, e_tg1, e_sq1, e_sq2, e_sq3, e_sq4, e_sq5, e_qv2, e_qv3, e_qv4, e_qv5, e_data1, e_data2, e_data3, e_okI, e_okB, e_i2, e_sub, e_mul, e_mod, e_div, e_pow, e_lt, e_le, e_gt, e_ge, e_neg, e_addI, e_addS, e_addT, e_addL1, e_addL2, e_addL3, e_addL4, e_addL5, e_addL6, e_addL7, e_addL8, e_addL9, e_eq, e_ne, e_in, e_notIn, e_inT, e_inT2, e_inL1, e_inL2, e_inL3, e_is, e_isNot, e_isN1, e_isN2, e_isN3, e_isN4, e_isN5, e_isN6, e_isN7, e_ixT, e_ixL, e_ixO, e_ixB, e_ixSc, e_lenT, e_lenL, e_lenO, e_lenB, e_lenSc, e_lenS, e_tupT, e_tupL, e_tupO, e_tupB, e_lisT, e_lisL, e_lisO, e_lisB, e_min2, e_max2, e_any, e_all, e_sum, e_sorted, e_rev, e_sl, e_oN, e_isi, e_lc, e_wipe0, e_wipe1, e_iA, e_iAb, e_gAq1, e_gAq2, e_gAq3, e_gAqb1, e_gAqb2, e_gAqb3, e_gAqb4, e_no, e_cCh, e_cChI, e_aug, e_decT, e_decF, e_cDispS, e_cDT, e_cDK, e_cDisp1, e_storeA, e_stR1, e_stR2, e_stR3, e_sd1, e_keyD1, e_keyD2, e_keyTD, e_intsD, e_intsD0, e_borT, e_borT2, e_borK, e_borK2, e_argT, e_argT2, e_argK, e_argK2, e_nbT, e_nbK, e_putT, e_putK, e_gAt1, e_gAt2, e_gAt3, e_gAt4, e_gGetDK, e_gGetDT, e_gIxD, e_gInD, e_gNotInD, e_cGet1, e_cGet2, e_dk1, e_dk2, e_dk3, e_dk4, e_dt1, e_dt2, e_del, atI_zero, e_at1, e_at2, e_at3, e_at4, e_at5, e_at6, e_at7, e_at8, e_at9, e_atm, e_V, e_retV, e_unp, e_app, e_store, e_fzE, oS, rsO_some, Rs.bind_ok, Rs.bind_no, Rs.out_ok, Out.then_nx, Out.then_rt, Out.then_ct, Out.then_bk, fin_rt, fin_nx, List.getElem?_cons_zero, List.getElem?_cons_succ, List.set_cons_succ, List.set_cons_zero, List.length_cons, List.length_nil, Nat.reduceAdd, Nat.reduceLT, Nat.reduceLeDiff, Nat.reduceEqDiff, if_true, if_false, Bool.false_eq_true, Bool.not_true, Bool.not_false, and_self, true_and, and_true, List.map_cons, List.map_nil, Option.map_some, sh_int, sh_bool, sh_none, sh_tup, sh_lst, eqv_int, reduceIte, Option.bind_some, Option.bind_none, kitB_ll, kitB_lt, kitB_tt, kitB_tl, kitB_ii, tyD_list, tyD_int, Bool.true_and, Bool.false_and, Bool.and_true, Bool.and_false, Bool.or_true, Bool.true_or, Bool.false_or, Bool.or_false, Bool.and_self, Bool.or_self, e_cAK, List.append_nil, List.nil_append, List.cons_append, e_andB, e_orB, e_andR, e_orR, tyD_tuple, eqv_bool, eqv_none, tyD_bool, tyD_str, tyD_none, kitB_bb, kitB_nb, kitB_bi, kitB_ib, kitB_nl, kitB_nt, beq_self_eq_true, h0, h0', d0, e_raise, fld2, Out.then_ex]
    rfl
end
section
variable {m n m2 n2 : Nat} {ss tt : List Stp} {os os2 : List Nat} {ls : List (Option Nat)}
theorem lc_outs (places os2 : List Nat) (h : ∀ o ∈ os2, o < places.length) (e0 e1 e2 e3 e4 e5 e7 e8 e10 : Option RV) : lcF (.nm 9) bYes (c2 gIx (cV 6) (cV 9)) [e0, e1, e2, e3, e4, e5, some (.d (.list (places.map natI))), e7, e8, none, e10] (os2.map natI) = .ok ((os2.map fun o => places.getD o 0).map natI) := by
  rw [lcF_map natI (fun _ => true) (fun o => natI (places.getD o 0)) os2 fun o ho => ⟨_, rfl, rfl, fun _ => ⟨.d (natI (places.getD o 0)), ?_, rfl⟩⟩, List.filter_eq_self.mpr (fun _ _ => rfl), List.map_map]
  · rfl
  · have hat := nats_at (h o ho)
    generalize places.map natI = PL at *
    simp only [e_nil, e_seq, e_fz, e_bk, e_ct, e_ret, e_retN, e_drop, e_set, e_if, e_for, e_cC, e_c2, e_c1, e_cA, e_aN, e_aC, e_cB, e_asB, e_bNot, e_bAnd, e_bOr, e_vAnd, e_vOr, e_vNot, e_vIf, e_bYes, e_iL, e_iT, e_iLb, e_iR, e_gL1, e_gL2, e_gL3, e_gT, e_gLb1, e_gLb2, e_gLb3, e_gLb4, e_nb1, e_nb2, e_bor1, e_bor2, e_bor3, e_bor4, e_arg1, e_arg2, e_arg3, e_arg4, e_putd, e_puto, e_toD1, e_toD2, e_allD0, e_allD1, e_allD2, e_gTupl, e_gList, e_tgnm, e_tgtp, e_tg0, e_tg1, e_sq1, e_sq2, e_sq3, e_sq4, e_sq5, e_qv2, e_qv3, e_qv4, e_qv5, e_data1, e_data2, e_data3, e_okI, e_okB, e_i2, e_sub, e_mul, e_mod, e_div, e_pow, e_lt, e_le, e_gt, e_ge, e_neg, e_addI, e_addS, e_addT, e_addL1, e_addL2, e_addL3, e_addL4, e_addL5, e_addL6, e_addL7, e_addL8, e_addL9, e_eq, e_ne, e_in, e_notIn, e_inT, e_inT2, e_inL1, e_inL2, e_inL3, e_is, e_isNot, e_isN1, e_isN2, e_isN3, e_isN4, e_isN5, e_isN6, e_isN7, e_ixT, e_ixL, e_ixO, e_ixB, e_ixSc, e_lenT, e_lenL, e_lenO, e_lenB, e_lenSc, e_lenS, e_tupT, e_tupL, e_tupO, e_tupB, e_lisT, e_lisL, e_lisO, e_lisB, e_min2, e_max2, e_any, e_all, e_sum, e_sorted, e_rev, e_sl, e_oN, e_isi, e_lc, e_wipe0, e_wipe1, e_iA, e_iAb, e_gAq1, e_gAq2, e_gAq3, e_gAqb1, e_gAqb2, e_gAqb3, e_gAqb4, e_no, e_cCh, e_cChI, e_aug, e_decT, e_decF, e_cDispS, e_cDT, e_cDK, e_cDisp1, e_storeA, e_stR1, e_stR2, e_stR3, e_sd1, e_keyD1, e_keyD2, e_keyTD, e_intsD, e_intsD0, e_borT, e_borT2, e_borK, e_borK2, e_argT, e_argT2, e_argK, e_argK2, e_nbT, e_nbK, e_putT, e_putK, e_gAt1, e_gAt2, e_gAt3, e_gAt4, e_gGetDK, e_gGetDT, e_gIxD, e_gInD, e_gNotInD, e_cGet1, e_cGet2, e_dk1, e_dk2, e_dk3, e_dk4, e_dt1, e_dt2, e_del, atI_zero, e_at1, e_at2, e_at3, e_at4, e_at5, e_at6, e_at7, e_at8, e_at9, e_atm, e_V, e_retV, e_unp, e_app, e_store, e_fzE, oS, rsO_some, Rs.bind_ok, Rs.bind_no, Rs.out_ok, Out.then_nx, Out.then_rt, Out.then_ct, Out.then_bk, fin_rt, fin_nx, List.getElem?_cons_zero, List.getElem?_cons_succ, List.set_cons_succ, List.set_cons_zero, List.length_cons, List.length_nil, Nat.reduceAdd, Nat.reduceLT, Nat.reduceLeDiff, Nat.reduceEqDiff, if_true, if_false, Bool.false_eq_true, Bool.not_true, Bool.not_false, and_self, true_and, and_true, List.map_cons, List.map_nil, Option.map_some, sh_int, sh_bool, sh_none, sh_tup, sh_lst, eqv_int, reduceIte, Option.bind_some, Option.bind_none, kitB_ll, kitB_lt, kitB_tt, kitB_tl, kitB_ii, tyD_list, tyD_int, Bool.true_and, Bool.false_and, Bool.and_true, Bool.and_false, Bool.or_true, Bool.true_or, Bool.false_or, Bool.or_false, Bool.and_self, Bool.or_self, e_cAK, List.append_nil, List.nil_append, List.cons_append, e_andB, e_orB, e_andR, e_orR, tyD_tuple, eqv_bool, eqv_none, tyD_bool, tyD_str, tyD_none, kitB_bb, kitB_nb, kitB_bi, kitB_ib, kitB_nl, kitB_nt, beq_self_eq_true, natI, hat]
theorem lc_ord (outs : List Nat) (k : Nat) (e0 e1 e2 e3 e4 e5 e6 e8 e9 : Option RV) (hk : k ≤ 1000) : lcF (.nm 10) (cB (c2 gIn (cV 10) (cV 7))) (cV 10) [e0, e1, e2, e3, e4, e5, e6, some (.ol (outs.map natI)), e8, e9, none] ((List.range k).map natI) = .ok ((ordM k outs).map natI) := by
  refine lc_nats 10 (List.range k) (fun j => decide (j ∈ outs)) ?_ fun j hj => ?_
  · show 10 < 11; decide
  have h1 := nat_any outs j
  have h2 := sh_natsL outs
  generalize outs.map natI = OL at *
  simp only [e_nil, e_seq, e_fz, e_bk, e_ct, e_ret, e_retN, e_drop, e_set, e_if, e_for, e_cC, e_c2, e_c1, e_cA, e_aN, e_aC, e_cB, e_asB, e_bNot, e_bAnd, e_bOr, e_vAnd, e_vOr, e_vNot, e_vIf, e_bYes, e_iL, e_iT, e_iLb, e_iR, e_gL1, e_gL2, e_gL3, e_gT, e_gLb1, e_gLb2, e_gLb3, e_gLb4, e_nb1, e_nb2, e_bor1, e_bor2, e_bor3, e_bor4, e_arg1, e_arg2, e_arg3, e_arg4, e_putd, e_puto, e_toD1, e_toD2, e_allD0, e_allD1, e_allD2, e_gTupl, e_gList, e_tgnm, e_tgtp, e_tg0, e_tg1, e_sq1, e_sq2, e_sq3, e_sq4, e_sq5, e_qv2, e_qv3, e_qv4, e_qv5, e_data1, e_data2, e_data3, e_okI, e_okB, e_i2, e_sub, e_mul, e_mod, e_div, e_pow, e_lt, e_le, e_gt, e_ge, e_neg, e_addI, e_addS, e_addT, e_addL1, e_addL2, e_addL3, e_addL4, e_addL5, e_addL6, e_addL7, e_addL8, e_addL9, e_eq, e_ne, e_in, e_notIn, e_inT, e_inT2, e_inL1, e_inL2, e_inL3, e_is, e_isNot, e_isN1, e_isN2, e_isN3, e_isN4, e_isN5, e_isN6, e_isN7, e_ixT, e_ixL, e_ixO, e_ixB, e_ixSc, e_lenT, e_lenL, e_lenO, e_lenB, e_lenSc, e_lenS, e_tupT, e_tupL, e_tupO, e_tupB, e_lisT, e_lisL, e_lisO, e_lisB, e_min2, e_max2, e_any, e_all, e_sum, e_sorted, e_rev, e_sl, e_oN, e_isi, e_lc, e_wipe0, e_wipe1, e_iA, e_iAb, e_gAq1, e_gAq2, e_gAq3, e_gAqb1, e_gAqb2, e_gAqb3, e_gAqb4, e_no, e_cCh, e_cChI, e_aug, e_decT, e_decF, e_cDispS, e_cDT, e_cDK, e_cDisp1, e_storeA, e_stR1, e_stR2, e_stR3, e_sd1, e_keyD1, e_keyD2, e_keyTD, e_intsD, e_intsD0, e_borT, e_borT2, e_borK, e_borK2, e_argT, e_argT2, e_argK, e_argK2, e_nbT, e_nbK, e_putT, e_putK, e_gAt1, e_gAt2, e_gAt3, e_gAt4, e_gGetDK, e_gGetDT, e_gIxD, e_gInD, e_gNotInD, e_cGet1, e_cGet2, e_dk1, e_dk2, e_dk3, e_dk4, e_dt1, e_dt2, e_del, atI_zero, e_at1, e_at2, e_at3, e_at4, e_at5, e_at6, e_at7, e_at8, e_at9, e_atm, e_V, e_retV, e_unp, e_app, e_store, e_fzE, oS, rsO_some, Rs.bind_ok, Rs.bind_no, Rs.out_ok, Out.then_nx, Out.then_rt, Out.then_ct, Out.then_bk, fin_rt, fin_nx, List.getElem?_cons_zero, List.getElem?_cons_succ, List.set_cons_succ, List.set_cons_zero, List.length_cons, List.length_nil, Nat.reduceAdd, Nat.reduceLT, Nat.reduceLeDiff, Nat.reduceEqDiff, if_true, if_false, Bool.false_eq_true, Bool.not_true, Bool.not_false, and_self, true_and, and_true, List.map_cons, List.map_nil, Option.map_some, sh_int, sh_bool, sh_none, sh_tup, sh_lst, eqv_int, reduceIte, Option.bind_some, Option.bind_none, kitB_ll, kitB_lt, kitB_tt, kitB_tl, kitB_ii, tyD_list, tyD_int, Bool.true_and, Bool.false_and, Bool.and_true, Bool.and_false, Bool.or_true, Bool.true_or, Bool.false_or, Bool.or_false, Bool.and_self, Bool.or_self, e_cAK, List.append_nil, List.nil_append, List.cons_append, e_andB, e_orB, e_andR, e_orR, tyD_tuple, eqv_bool, eqv_none, tyD_bool, tyD_str, tyD_none, kitB_bb, kitB_nb, kitB_bi, kitB_ib, kitB_nl, kitB_nt, beq_self_eq_true, h1, h2]
theorem joined_ok (hS2 : StpsOk m2 n2 tt) (hn2 : n2 ≤ 100) (hm2 : m2 ≤ 1000) (hn : n ≤ 100) (hl : ss.length ≤ 100) (hl2 : tt.length ≤ 100) (hls : ls.length = n2) (hk : ∀ k, some k ∈ ls → k < 100000) (ho2 : ∀ o ∈ os2, o < tt.length) (ho : os.length ≤ 1000) (ho2' : os2.length ≤ 1000) (keep : Bool) :
    F_joined [.d (progD m n (.tuple (ss.map Stp.d)) (.tuple (os.map natI))), .d (progD m2 n2 (.tuple (tt.map Stp.d)) (.tuple (os2.map natI))), .d (.tuple (ls.map lkD)), .d (.bool keep)] =
      match faultJ m n m2 os ls (joinM (namesM n ls) ss tt).1 with
      | some (w, x) => .ex 3 [("place", .int x), ("what", .str w)]
      | none => .ok (.d (joinedD m n ls (joinM (namesM n ls) ss tt) os os2 keep)) := by
  have p1 := put_ok (m := m) (n := n) (ss := ss) (out := .tuple (os.map natI)) (out2 := .tuple (os2.map natI)) hS2 hn2 hm2 hn hl hl2 hls hk
  have h0 : gIx (.d (progD m n (.tuple (ss.map Stp.d)) (.tuple (os.map natI)))) (.d (.int 0)) = .ok (.d (.int (m : Int))) := rfl
  have h0' : gIx (.d (progD m2 n2 (.tuple (tt.map Stp.d)) (.tuple (os2.map natI)))) (.d (.int 0)) = .ok (.d (.int (m2 : Int))) := rfl
  have h3 : gIx (.d (progD m n (.tuple (ss.map Stp.d)) (.tuple (os.map natI)))) (.d (.int 3)) = .ok (.d (.tuple (os.map natI))) := rfl
  have h3' : gIx (.d (progD m2 n2 (.tuple (tt.map Stp.d)) (.tuple (os2.map natI)))) (.d (.int 3)) = .ok (.d (.tuple (os2.map natI))) := rfl
  have p2 := check_ok (m := m) (n := n) (m2 := m2) (ss := ss) (os := os) (ls := ls) (progD m2 n2 (.tuple (tt.map Stp.d)) (.tuple (os2.map natI))) (by omega) h0'
  have jo := join_ok (names := namesM n ls) (ss := ss) tt
  obtain ⟨st, hst⟩ : ∃ st, st = joinM (namesM n ls) ss tt := ⟨_, rfl⟩
  rw [← hst] at p1 jo ⊢
  obtain ⟨steps, places⟩ := st
  have jl := jo.len
  have jh := jo.hi
  simp only at p1 jl jh ⊢
  have hle : gLen [.d (.list (steps.map Stp.d))] = .ok (.d (.int (steps.length : Int))) := by rw [e_lenL, List.length_map]
  have htg : ∀ (a b c : PyData) env, tgE (.tp [4, 5, 6]) (.tuple [a, b, c]) env = tgEs [4, 5, 6] [a, b, c] env := fun _ _ _ _ => rfl
  have lco := fun e0 e1 e2 e3 e4 e5 e7 e8 e10 => lc_outs places os2 (fun o h => by rw [jl]; exact ho2 o h) e0 e1 e2 e3 e4 e5 e7 e8 e10
  have hgb : gAqb (.d (.tuple (os2.map natI))) = .ok (os2.map natI) := rfl
  have z1 : (os2.map natI).length ≤ 1000000 := by rw [List.length_map]; omega
  have hrn := e_R1n (n := steps.length) (by omega)
  rw [rng_nat] at hrn
  have z2 : ((List.range steps.length).map natI).length ≤ 1000000 := by rw [List.length_map, List.length_range]; omega
  show (B_joined [some (.d (progD m n (.tuple (ss.map Stp.d)) (.tuple (os.map natI)))), some (.d (progD m2 n2 (.tuple (tt.map Stp.d)) (.tuple (os2.map natI)))), some (.d (.tuple (ls.map lkD))), some (.d (.bool keep)), none, none, none, none, none, none, none]).fin = _
  unfold B_joined faultJ
  by_cases c0 : m = m2
  · rw [if_neg (fun z => z c0)] at p2
    rw [if_neg (fun z => z c0)]
    cases hw : wrongL os 0 ls with
    | some k =>
      rw [hw] at p2
      simp only at p2 ⊢
      generalize ls.map lkD = LL at *
      generalize progD m2 n2 (.tuple (tt.map Stp.d)) (.tuple (os2.map natI)) = P2 at *
      generalize progD m n (.tuple (ss.map Stp.d)) (.tuple (os.map natI)) = PP at *
      simp only [e_nil, e_seq, e_fz, e_bk, e_ct, e_ret, e_retN, e_drop, e_set, e_if, e_for, e_cC, e_c2, e_c1, e_cA, e_aN, e_aC, e_cB, e_asB, e_bNot, e_bAnd, e_bOr, e_vAnd, e_vOr, e_vNot, e_vIf, e_bYes, e_iL, e_iT, e_iLb, e_iR, e_gL1, e_gL2, e_gL3, e_gT, e_gLb1, e_gLb2, e_gLb3, e_gLb4, e_nb1, e_nb2, e_bor1, e_bor2, e_bor3, e_bor4, e_arg1, e_arg2, e_arg3, e_arg4, e_putd, e_puto, e_toD1, e_toD2, e_allD0, e_allD1, e_allD2, e_gTupl, e_gList, e_tgnm, e_tgtp, e_tg0, e_tg1, e_sq1, e_sq2, e_sq3, e_sq4, e_sq5, e_qv2, e_qv3, e_qv4, e_qv5, e_data1, e_data2, e_data3, e_okI, e_okB, e_i2, e_sub, e_mul, e_mod, e_div, e_pow, e_lt, e_le, e_gt, e_ge, e_neg, e_addI, e_addS, e_addT, e_addL1, e_addL2, e_addL3, e_addL4, e_addL5, e_addL6, e_addL7, e_addL8, e_addL9, e_eq, e_ne, e_in, e_notIn, e_inT, e_inT2, e_inL1, e_inL2, e_inL3, e_is, e_isNot, e_isN1, e_isN2, e_isN3, e_isN4, e_isN5, e_isN6, e_isN7, e_ixT, e_ixL, e_ixO, e_ixB, e_ixSc, e_lenT, e_lenL, e_lenO, e_lenB, e_lenSc, e_lenS, e_tupT, e_tupL, e_tupO, e_tupB, e_lisT, e_lisL, e_lisO, e_lisB, e_min2, e_max2, e_any, e_all, e_sum, e_sorted, e_rev, e_sl, e_oN, e_isi, e_lc, e_wipe0, e_wipe1, e_iA, e_iAb, e_gAq1, e_gAq2, e_gAq3, e_gAqb1, e_gAqb2, e_gAqb3, e_gAqb4, e_no, e_cCh, e_cChI, e_aug, e_decT, e_decF, e_cDispS, e_cDT, e_cDK, e_cDisp1, e_storeA, e_stR1, e_stR2, e_stR3, e_sd1, e_keyD1, e_keyD2, e_keyTD, e_intsD, e_intsD0, e_borT, e_borT2, e_borK, e_borK2, e_argT, e_argT2, e_argK, e_argK2, e_nbT, e_nbK, e_putT, e_putK, e_gAt1, e_gAt2, e_gAt3, e_gAt4, e_gGetDK, e_gGetDT, e_gIxD, e_gInD, e_gNotInD, e_cGet1, e_cGet2, e_dk1, e_dk2, e_dk3, e_dk4, e_dt1, e_dt2, e_del, atI_zero, e_at1, e_at2, e_at3, e_at4, e_at5, e_at6, e_at7, e_at8, e_at9, e_atm, e_V, e_retV, e_unp, e_app, e_store, e_fzE, oS, rsO_some, Rs.bind_ok, Rs.bind_no, Rs.out_ok, Out.then_nx, Out.then_rt, Out.then_ct, Out.then_bk, fin_rt, fin_nx, List.getElem?_cons_zero, List.getElem?_cons_succ, List.set_cons_succ, List.set_cons_zero, List.length_cons, List.length_nil, Nat.reduceAdd, Nat.reduceLT, Nat.reduceLeDiff, Nat.reduceEqDiff, if_true, if_false, Bool.false_eq_true, Bool.not_true, Bool.not_false, and_self, true_and, and_true, List.map_cons, List.map_nil, Option.map_some, sh_int, sh_bool, sh_none, sh_tup, sh_lst, eqv_int, reduceIte, Option.bind_some, Option.bind_none, kitB_ll, kitB_lt, kitB_tt, kitB_tl, kitB_ii, tyD_list, tyD_int, Bool.true_and, Bool.false_and, Bool.and_true, Bool.and_false, Bool.or_true, Bool.true_or, Bool.false_or, Bool.or_false, Bool.and_self, Bool.or_self, e_cAK, List.append_nil, List.nil_append, List.cons_append, e_andB, e_orB, e_andR, e_orR, tyD_tuple, eqv_bool, eqv_none, tyD_bool, tyD_str, tyD_none, kitB_bb, kitB_nb, kitB_bi, kitB_ib, kitB_nl, kitB_nt, beq_self_eq_true, p2, Rs.out_ex, Out.then_ex]
      rfl
    | none =>
      rw [hw] at p2
      simp only at p2 ⊢
      by_cases c1 : 6 < n + noneC ls
      · have d1 : decide (((n + noneC ls : Nat) : Int) > 6) = true := decide_eq_true (by omega)
        rw [if_pos c1]
        generalize places.map natI = JP at *
        generalize steps.map Stp.d = SD at *
        generalize ls.map lkD = LL at *
        generalize progD m2 n2 (.tuple (tt.map Stp.d)) (.tuple (os2.map natI)) = P2 at *
        generalize progD m n (.tuple (ss.map Stp.d)) (.tuple (os.map natI)) = PP at *
        simp only [e_nil, e_seq, e_fz, e_bk, e_ct, e_ret, e_retN, e_drop, e_set, e_if, e_for, e_cC, e_c2, e_c1, e_cA, e_aN, e_aC, e_cB, e_asB, e_bNot, e_bAnd, e_bOr, e_vAnd, e_vOr, e_vNot, e_vIf, e_bYes, e_iL, e_iT, e_iLb, e_iR, e_gL1, e_gL2, e_gL3, e_gT, e_gLb1, e_gLb2, e_gLb3, e_gLb4, e_nb1, e_nb2, e_bor1, e_bor2, e_bor3, e_bor4, e_arg1, e_arg2, e_arg3, e_arg4, e_putd, e_puto, e_toD1, e_toD2, e_allD0, e_allD1, e_allD2, e_gTupl, e_gList, e_tgnm, e_tgtp, e_tg0, e_tg1, e_sq1, e_sq2, e_sq3, e_sq4, e_sq5, e_qv2, e_qv3, e_qv4, e_qv5, e_data1, e_data2, e_data3, e_okI, e_okB, e_i2, e_sub, e_mul, e_mod, e_div, e_pow, e_lt, e_le, e_gt, e_ge, e_neg, e_addI, e_addS, e_addT, e_addL1, e_addL2, e_addL3, e_addL4, e_addL5, e_addL6, e_addL7, e_addL8, e_addL9, e_eq, e_ne, e_in, e_notIn, e_inT, e_inT2, e_inL1, e_inL2, e_inL3, e_is, e_isNot, e_isN1, e_isN2, e_isN3, e_isN4, e_isN5, e_isN6, e_isN7, e_ixT, e_ixL, e_ixO, e_ixB, e_ixSc, e_lenT, e_lenL, e_lenO, e_lenB, e_lenSc, e_lenS, e_tupT, e_tupL, e_tupO, e_tupB, e_lisT, e_lisL, e_lisO, e_lisB, e_min2, e_max2, e_any, e_all, e_sum, e_sorted, e_rev, e_sl, e_oN, e_isi, e_lc, e_wipe0, e_wipe1, e_iA, e_iAb, e_gAq1, e_gAq2, e_gAq3, e_gAqb1, e_gAqb2, e_gAqb3, e_gAqb4, e_no, e_cCh, e_cChI, e_aug, e_decT, e_decF, e_cDispS, e_cDT, e_cDK, e_cDisp1, e_storeA, e_stR1, e_stR2, e_stR3, e_sd1, e_keyD1, e_keyD2, e_keyTD, e_intsD, e_intsD0, e_borT, e_borT2, e_borK, e_borK2, e_argT, e_argT2, e_argK, e_argK2, e_nbT, e_nbK, e_putT, e_putK, e_gAt1, e_gAt2, e_gAt3, e_gAt4, e_gGetDK, e_gGetDT, e_gIxD, e_gInD, e_gNotInD, e_cGet1, e_cGet2, e_dk1, e_dk2, e_dk3, e_dk4, e_dt1, e_dt2, e_del, atI_zero, e_at1, e_at2, e_at3, e_at4, e_at5, e_at6, e_at7, e_at8, e_at9, e_atm, e_V, e_retV, e_unp, e_app, e_store, e_fzE, oS, rsO_some, Rs.bind_ok, Rs.bind_no, Rs.out_ok, Out.then_nx, Out.then_rt, Out.then_ct, Out.then_bk, fin_rt, fin_nx, List.getElem?_cons_zero, List.getElem?_cons_succ, List.set_cons_succ, List.set_cons_zero, List.length_cons, List.length_nil, Nat.reduceAdd, Nat.reduceLT, Nat.reduceLeDiff, Nat.reduceEqDiff, if_true, if_false, Bool.false_eq_true, Bool.not_true, Bool.not_false, and_self, true_and, and_true, List.map_cons, List.map_nil, Option.map_some, sh_int, sh_bool, sh_none, sh_tup, sh_lst, eqv_int, reduceIte, Option.bind_some, Option.bind_none, kitB_ll, kitB_lt, kitB_tt, kitB_tl, kitB_ii, tyD_list, tyD_int, Bool.true_and, Bool.false_and, Bool.and_true, Bool.and_false, Bool.or_true, Bool.true_or, Bool.false_or, Bool.or_false, Bool.and_self, Bool.or_self, e_cAK, List.append_nil, List.nil_append, List.cons_append, e_andB, e_orB, e_andR, e_orR, tyD_tuple, eqv_bool, eqv_none, tyD_bool, tyD_str, tyD_none, kitB_bb, kitB_nb, kitB_bi, kitB_ib, kitB_nl, kitB_nt, beq_self_eq_true, p2, p1, htg, d1, e_raise, fld2, Out.then_ex]
        rfl
      · have d1 : decide (((n + noneC ls : Nat) : Int) > 6) = false := decide_eq_false (by omega)
        rw [if_neg c1]
        by_cases c2 : 8 < steps.length
        · have d2 : decide ((steps.length : Int) > 8) = true := decide_eq_true (by omega)
          rw [if_pos c2]
          generalize places.map natI = JP at *
          generalize steps.map Stp.d = SD at *
          generalize ls.map lkD = LL at *
          generalize progD m2 n2 (.tuple (tt.map Stp.d)) (.tuple (os2.map natI)) = P2 at *
          generalize progD m n (.tuple (ss.map Stp.d)) (.tuple (os.map natI)) = PP at *
          simp only [e_nil, e_seq, e_fz, e_bk, e_ct, e_ret, e_retN, e_drop, e_set, e_if, e_for, e_cC, e_c2, e_c1, e_cA, e_aN, e_aC, e_cB, e_asB, e_bNot, e_bAnd, e_bOr, e_vAnd, e_vOr, e_vNot, e_vIf, e_bYes, e_iL, e_iT, e_iLb, e_iR, e_gL1, e_gL2, e_gL3, e_gT, e_gLb1, e_gLb2, e_gLb3, e_gLb4, e_nb1, e_nb2, e_bor1, e_bor2, e_bor3, e_bor4, e_arg1, e_arg2, e_arg3, e_arg4, e_putd, e_puto, e_toD1, e_toD2, e_allD0, e_allD1, e_allD2, e_gTupl, e_gList, e_tgnm, e_tgtp, e_tg0, e_tg1, e_sq1, e_sq2, e_sq3, e_sq4, e_sq5, e_qv2, e_qv3, e_qv4, e_qv5, e_data1, e_data2, e_data3, e_okI, e_okB, e_i2, e_sub, e_mul, e_mod, e_div, e_pow, e_lt, e_le, e_gt, e_ge, e_neg, e_addI, e_addS, e_addT, e_addL1, e_addL2, e_addL3, e_addL4, e_addL5, e_addL6, e_addL7, e_addL8, e_addL9, e_eq, e_ne, e_in, e_notIn, e_inT, e_inT2, e_inL1, e_inL2, e_inL3, e_is, e_isNot, e_isN1, e_isN2, e_isN3, e_isN4, e_isN5, e_isN6, e_isN7, e_ixT, e_ixL, e_ixO, e_ixB, e_ixSc, e_lenT, e_lenL, e_lenO, e_lenB, e_lenSc, e_lenS, e_tupT, e_tupL, e_tupO, e_tupB, e_lisT, e_lisL, e_lisO, e_lisB, e_min2, e_max2, e_any, e_all, e_sum, e_sorted, e_rev, e_sl, e_oN, e_isi, e_lc, e_wipe0, e_wipe1, e_iA, e_iAb, e_gAq1, e_gAq2, e_gAq3, e_gAqb1, e_gAqb2, e_gAqb3, e_gAqb4, e_no, e_cCh, e_cChI, e_aug, e_decT, e_decF, e_cDispS, e_cDT, e_cDK, e_cDisp1, e_storeA, e_stR1, e_stR2, e_stR3, e_sd1, e_keyD1, e_keyD2, e_keyTD, e_intsD, e_intsD0, e_borT, e_borT2, e_borK, e_borK2, e_argT, e_argT2, e_argK, e_argK2, e_nbT, e_nbK, e_putT, e_putK, e_gAt1, e_gAt2, e_gAt3, e_gAt4, e_gGetDK, e_gGetDT, e_gIxD, e_gInD, e_gNotInD, e_cGet1, e_cGet2, e_dk1, e_dk2, e_dk3, e_dk4, e_dt1, e_dt2, e_del, atI_zero, e_at1, e_at2, e_at3, e_at4, e_at5, e_at6, e_at7, e_at8, e_at9, e_atm, e_V, e_retV, e_unp, e_app, e_store, e_fzE, oS, rsO_some, Rs.bind_ok, Rs.bind_no, Rs.out_ok, Out.then_nx, Out.then_rt, Out.then_ct, Out.then_bk, fin_rt, fin_nx, List.getElem?_cons_zero, List.getElem?_cons_succ, List.set_cons_succ, List.set_cons_zero, List.length_cons, List.length_nil, Nat.reduceAdd, Nat.reduceLT, Nat.reduceLeDiff, Nat.reduceEqDiff, if_true, if_false, Bool.false_eq_true, Bool.not_true, Bool.not_false, and_self, true_and, and_true, List.map_cons, List.map_nil, Option.map_some, sh_int, sh_bool, sh_none, sh_tup, sh_lst, eqv_int, reduceIte, Option.bind_some, Option.bind_none, kitB_ll, kitB_lt, kitB_tt, kitB_tl, kitB_ii, tyD_list, tyD_int, Bool.true_and, Bool.false_and, Bool.and_true, Bool.and_false, Bool.or_true, Bool.true_or, Bool.false_or, Bool.or_false, Bool.and_self, Bool.or_self, e_cAK, List.append_nil, List.nil_append, List.cons_append, e_andB, e_orB, e_andR, e_orR, tyD_tuple, eqv_bool, eqv_none, tyD_bool, tyD_str, tyD_none, kitB_bb, kitB_nb, kitB_bi, kitB_ib, kitB_nl, kitB_nt, beq_self_eq_true, p2, p1, htg, d1, hle, d2, e_raise, fld2, Out.then_ex]
          rfl
        · have d2 : decide ((steps.length : Int) > 8) = false := decide_eq_false (by omega)
          rw [if_neg c2]
          have lcd := fun e0 e1 e2 e3 e4 e5 e6 e8 e9 => lc_ord (outsJ places os os2 keep) steps.length e0 e1 e2 e3 e4 e5 e6 e8 e9 (by omega)
          have jd : joinedD m n ls (steps, places) os os2 keep = .tuple [.int (m : Int), .int ((n + noneC ls : Nat) : Int), .tuple (steps.map Stp.d), .tuple ((ordM steps.length (outsJ places os os2 keep)).map natI)] := rfl
          rw [jd]
          have hou : outsJ places os os2 keep = os2.map (fun o => places.getD o 0) ++ (if keep = true then os else []) := rfl
          generalize (ordM steps.length (outsJ places os os2 keep)).map natI = OM at *
          cases keep with
          | true =>
            have e : (outsJ places os os2 true).map natI = (os2.map fun o => places.getD o 0).map natI ++ os.map natI := by rw [hou, if_pos rfl, List.map_append]
            rw [e] at lcd
            have z3 : ((os2.map fun o => places.getD o 0).map natI).length + (os.map natI).length ≤ 1000000 := by rw [List.length_map, List.length_map, List.length_map]; omega
            generalize (os2.map fun o => places.getD o 0).map natI = QL at *
            generalize (List.range steps.length).map natI = RL at *
            generalize places.map natI = JP at *
            generalize steps.map Stp.d = SD at *
            generalize ls.map lkD = LL at *
            generalize progD m2 n2 (.tuple (tt.map Stp.d)) (.tuple (os2.map natI)) = P2 at *
            generalize progD m n (.tuple (ss.map Stp.d)) (.tuple (os.map natI)) = PP at *
            generalize os2.map natI = O2 at *
            generalize os.map natI = OO at *
            simp only [e_nil, e_seq, e_fz, e_bk, e_ct, e_ret, e_retN, e_drop, e_set, e_if, e_for, e_cC, e_c2, e_c1, e_cA, e_aN, e_aC, e_cB, e_asB, e_bNot, e_bAnd, e_bOr, e_vAnd, e_vOr, e_vNot, e_vIf, e_bYes, e_iL, e_iT, e_iLb, e_iR, e_gL1, e_gL2, e_gL3, e_gT, e_gLb1, e_gLb2, e_gLb3, e_gLb4, e_nb1, e_nb2, e_bor1, e_bor2, e_bor3, e_bor4, e_arg1, e_arg2, e_arg3, e_arg4, e_putd, e_puto, e_toD1, e_toD2, e_allD0, e_allD1, e_allD2, e_gTupl, e_gList, e_tgnm, e_tgtp, e_tg0, e_tg1, e_sq1, e_sq2, e_sq3, e_sq4, e_sq5, e_qv2, e_qv3, e_qv4, e_qv5, e_data1, e_data2, e_data3, e_okI, e_okB, e_i2, e_sub, e_mul, e_mod, e_div, e_pow, e_lt, e_le, e_gt, e_ge, e_neg, e_addI, e_addS, e_addT, e_addL1, e_addL2, e_addL3, e_addL4, e_addL5, e_addL6, e_addL7, e_addL8, e_addL9, e_eq, e_ne, e_in, e_notIn, e_inT, e_inT2, e_inL1, e_inL2, e_inL3, e_is, e_isNot, e_isN1, e_isN2, e_isN3, e_isN4, e_isN5, e_isN6, e_isN7, e_ixT, e_ixL, e_ixO, e_ixB, e_ixSc, e_lenT, e_lenL, e_lenO, e_lenB, e_lenSc, e_lenS, e_tupT, e_tupL, e_tupO, e_tupB, e_lisT, e_lisL, e_lisO, e_lisB, e_min2, e_max2, e_any, e_all, e_sum, e_sorted, e_rev, e_sl, e_oN, e_isi, e_lc, e_wipe0, e_wipe1, e_iA, e_iAb, e_gAq1, e_gAq2, e_gAq3, e_gAqb1, e_gAqb2, e_gAqb3, e_gAqb4, e_no, e_cCh, e_cChI, e_aug, e_decT, e_decF, e_cDispS, e_cDT, e_cDK, e_cDisp1, e_storeA, e_stR1, e_stR2, e_stR3, e_sd1, e_keyD1, e_keyD2, e_keyTD, e_intsD, e_intsD0, e_borT, e_borT2, e_borK, e_borK2, e_argT, e_argT2, e_argK, e_argK2, e_nbT, e_nbK, e_putT, e_putK, e_gAt1, e_gAt2, e_gAt3, e_gAt4, e_gGetDK, e_gGetDT, e_gIxD, e_gInD, e_gNotInD, e_cGet1, e_cGet2, e_dk1, e_dk2, e_dk3, e_dk4, e_dt1, e_dt2, e_del, atI_zero, e_at1, e_at2, e_at3, e_at4, e_at5, e_at6, e_at7, e_at8, e_at9, e_atm, e_V, e_retV, e_unp, e_app, e_store, e_fzE, oS, rsO_some, Rs.bind_ok, Rs.bind_no, Rs.out_ok, Out.then_nx, Out.then_rt, Out.then_ct, Out.then_bk, fin_rt, fin_nx, List.getElem?_cons_zero, List.getElem?_cons_succ, List.set_cons_succ, List.set_cons_zero, List.length_cons, List.length_nil, Nat.reduceAdd, Nat.reduceLT, Nat.reduceLeDiff, Nat.reduceEqDiff, if_true, if_false, Bool.false_eq_true, Bool.not_true, Bool.not_false, and_self, true_and, and_true, List.map_cons, List.map_nil, Option.map_some, sh_int, sh_bool, sh_none, sh_tup, sh_lst, eqv_int, reduceIte, Option.bind_some, Option.bind_none, kitB_ll, kitB_lt, kitB_tt, kitB_tl, kitB_ii, tyD_list, tyD_int, Bool.true_and, Bool.false_and, Bool.and_true, Bool.and_false, Bool.or_true, Bool.true_or, Bool.false_or, Bool.or_false, Bool.and_self, Bool.or_self, e_cAK, List.append_nil, List.nil_append, List.cons_append, e_andB, e_orB, e_andR, e_orR, tyD_tuple, eqv_bool, eqv_none, tyD_bool, tyD_str, tyD_none, kitB_bb, kitB_nb, kitB_bi, kitB_ib, kitB_nl, kitB_nt, beq_self_eq_true, p2, p1, htg, d1, hle, d2, h3, h3', hgb, if_pos z1, lco, if_pos z3, hrn, if_pos z2, lcd, h0]
          | false =>
            have e : (outsJ places os os2 false).map natI = (os2.map fun o => places.getD o 0).map natI := by rw [hou, if_neg (by decide), List.append_nil]
            rw [e] at lcd
            generalize (os2.map fun o => places.getD o 0).map natI = QL at *
            generalize (List.range steps.length).map natI = RL at *
            generalize places.map natI = JP at *
            generalize steps.map Stp.d = SD at *
            generalize ls.map lkD = LL at *
            generalize progD m2 n2 (.tuple (tt.map Stp.d)) (.tuple (os2.map natI)) = P2 at *
            generalize progD m n (.tuple (ss.map Stp.d)) (.tuple (os.map natI)) = PP at *
            generalize os2.map natI = O2 at *
            simp only [e_nil, e_seq, e_fz, e_bk, e_ct, e_ret, e_retN, e_drop, e_set, e_if, e_for, e_cC, e_c2, e_c1, e_cA, e_aN, e_aC, e_cB, e_asB, e_bNot, e_bAnd, e_bOr, e_vAnd, e_vOr, e_vNot, e_vIf, e_bYes, e_iL, e_iT, e_iLb, e_iR, e_gL1, e_gL2, e_gL3, e_gT, e_gLb1, e_gLb2, e_gLb3, e_gLb4, e_nb1, e_nb2, e_bor1, e_bor2, e_bor3, e_bor4, e_arg1, e_arg2, e_arg3, e_arg4, e_putd, e_puto, e_toD1, e_toD2, e_allD0, e_allD1, e_allD2, e_gTupl, e_gList, e_tgnm, e_tgtp, e_tg0, e_tg1, e_sq1, e_sq2, e_sq3, e_sq4, e_sq5, e_qv2, e_qv3, e_qv4, e_qv5, e_data1, e_data2, e_data3, e_okI, e_okB, e_i2, e_sub, e_mul, e_mod, e_div, e_pow, e_lt, e_le, e_gt, e_ge, e_neg, e_addI, e_addS, e_addT, e_addL1, e_addL2, e_addL3, e_addL4, e_addL5, e_addL6, e_addL7, e_addL8, e_addL9, e_eq, e_ne, e_in, e_notIn, e_inT, e_inT2, e_inL1, e_inL2, e_inL3, e_is, e_isNot, e_isN1, e_isN2, e_isN3, e_isN4, e_isN5, e_isN6, e_isN7, e_ixT, e_ixL, e_ixO, e_ixB, e_ixSc, e_lenT, e_lenL, e_lenO, e_lenB, e_lenSc, e_lenS, e_tupT, e_tupL, e_tupO, e_tupB, e_lisT, e_lisL, e_lisO, e_lisB, e_min2, e_max2, e_any, e_all, e_sum, e_sorted, e_rev, e_sl, e_oN, e_isi, e_lc, e_wipe0, e_wipe1, e_iA, e_iAb, e_gAq1, e_gAq2, e_gAq3, e_gAqb1, e_gAqb2, e_gAqb3, e_gAqb4, e_no, e_cCh, e_cChI, e_aug, e_decT, e_decF, e_cDispS, e_cDT, e_cDK, e_cDisp1, e_storeA, e_stR1, e_stR2, e_stR3, e_sd1, e_keyD1, e_keyD2, e_keyTD, e_intsD, e_intsD0, e_borT, e_borT2, e_borK, e_borK2, e_argT, e_argT2, e_argK, e_argK2, e_nbT, e_nbK, e_putT, e_putK, e_gAt1, e_gAt2, e_gAt3, e_gAt4, e_gGetDK, e_gGetDT, e_gIxD, e_gInD, e_gNotInD, e_cGet1, e_cGet2, e_dk1, e_dk2, e_dk3, e_dk4, e_dt1, e_dt2, e_del, atI_zero, e_at1, e_at2, e_at3, e_at4, e_at5, e_at6, e_at7, e_at8, e_at9, e_atm, e_V, e_retV, e_unp, e_app, e_store, e_fzE, oS, rsO_some, Rs.bind_ok, Rs.bind_no, Rs.out_ok, Out.then_nx, Out.then_rt, Out.then_ct, Out.then_bk, fin_rt, fin_nx, List.getElem?_cons_zero, List.getElem?_cons_succ, List.set_cons_succ, List.set_cons_zero, List.length_cons, List.length_nil, Nat.reduceAdd, Nat.reduceLT, Nat.reduceLeDiff, Nat.reduceEqDiff, if_true, if_false, Bool.false_eq_true, Bool.not_true, Bool.not_false, and_self, true_and, and_true, List.map_cons, List.map_nil, Option.map_some, sh_int, sh_bool, sh_none, sh_tup, sh_lst, eqv_int, reduceIte, Option.bind_some, Option.bind_none, kitB_ll, kitB_lt, kitB_tt, kitB_tl, kitB_ii, tyD_list, tyD_int, Bool.true_and, Bool.false_and, Bool.and_true, Bool.and_false, Bool.or_true, Bool.true_or, Bool.false_or, Bool.or_false, Bool.and_self, Bool.or_self, e_cAK, List.append_nil, List.nil_append, List.cons_append, e_andB, e_orB, e_andR, e_orR, tyD_tuple, eqv_bool, eqv_none, tyD_bool, tyD_str, tyD_none, kitB_bb, kitB_nb, kitB_bi, kitB_ib, kitB_nl, kitB_nt, beq_self_eq_true, p2, p1, htg, d1, hle, d2, h3, h3', hgb, if_pos z1, lco, hrn, if_pos z2, lcd, h0]
  · rw [if_pos c0] at p2
    rw [if_pos c0]
    generalize ls.map lkD = LL at *
    generalize progD m2 n2 (.tuple (tt.map Stp.d)) (.tuple (os2.map natI)) = P2 at *
    generalize progD m n (.tuple (ss.map Stp.d)) (.tuple (os.map natI)) = PP at *
    simp only [e_nil, e_seq, e_fz, e_bk, e_ct, e_ret, e_retN, e_drop, e_set, e_if, e_for, e_cC, e_c2, e_c1, e_cA, e_aN, e_aC, e_cB, e_asB, e_bNot, e_bAnd, e_bOr, e_vAnd, e_vOr, e_vNot, e_vIf, e_bYes, e_iL, e_iT, e_iLb, e_iR, e_gL1, e_gL2, e_gL3, e_gT, e_gLb1, e_gLb2, e_gLb3, e_gLb4, e_nb1, e_nb2, e_bor1, e_bor2, e_bor3, e_bor4, e_arg1, e_arg2, e_arg3, e_arg4, e_putd, e_puto, e_toD1, e_toD2, e_allD0, e_allD1, e_allD2, e_gTupl, e_gList, e_tgnm, e_tgtp, e_tg0, e_tg1, e_sq1, e_sq2, e_sq3, e_sq4, e_sq5, e_qv2, e_qv3, e_qv4, e_qv5, e_data1, e_data2, e_data3, e_okI, e_okB, e_i2, e_sub, e_mul, e_mod, e_div, e_pow, e_lt, e_le, e_gt, e_ge, e_neg, e_addI, e_addS, e_addT, e_addL1, e_addL2, e_addL3, e_addL4, e_addL5, e_addL6, e_addL7, e_addL8, e_addL9, e_eq, e_ne, e_in, e_notIn, e_inT, e_inT2, e_inL1, e_inL2, e_inL3, e_is, e_isNot, e_isN1, e_isN2, e_isN3, e_isN4, e_isN5, e_isN6, e_isN7, e_ixT, e_ixL, e_ixO, e_ixB, e_ixSc, e_lenT, e_lenL, e_lenO, e_lenB, e_lenSc, e_lenS, e_tupT, e_tupL, e_tupO, e_tupB, e_lisT, e_lisL, e_lisO, e_lisB, e_min2, e_max2, e_any, e_all, e_sum, e_sorted, e_rev, e_sl, e_oN, e_isi, e_lc, e_wipe0, e_wipe1, e_iA, e_iAb, e_gAq1, e_gAq2, e_gAq3, e_gAqb1, e_gAqb2, e_gAqb3, e_gAqb4, e_no, e_cCh, e_cChI, e_aug, e_decT, e_decF, e_cDispS, e_cDT, e_cDK, e_cDisp1, e_storeA, e_stR1, e_stR2, e_stR3, e_sd1, e_keyD1, e_keyD2, e_keyTD, e_intsD, e_intsD0, e_borT, e_borT2, e_borK, e_borK2, e_argT, e_argT2, e_argK, e_argK2, e_nbT, e_nbK, e_putT, e_putK, e_gAt1, e_gAt2, e_gAt3, e_gAt4, e_gGetDK, e_gGetDT, e_gIxD, e_gInD, e_gNotInD, e_cGet1, e_cGet2, e_dk1, e_dk2, e_dk3, e_dk4, e_dt1, e_dt2, e_del, atI_zero, e_at1, e_at2, e_at3, e_at4, e_at5, e_at6, e_at7, e_at8, e_at9, e_atm, e_V, e_retV, e_unp, e_app, e_store, e_fzE, oS, rsO_some, Rs.bind_ok, Rs.bind_no, Rs.out_ok, Out.then_nx, Out.then_rt, Out.then_ct, Out.then_bk, fin_rt, fin_nx, List.getElem?_cons_zero, List.getElem?_cons_succ, List.set_cons_succ, List.set_cons_zero, List.length_cons, List.length_nil, Nat.reduceAdd, Nat.reduceLT, Nat.reduceLeDiff, Nat.reduceEqDiff, if_true, if_false, Bool.false_eq_true, Bool.not_true, Bool.not_false, and_self, true_and, and_true, List.map_cons, List.map_nil, Option.map_some, sh_int, sh_bool, sh_none, sh_tup, sh_lst, eqv_int, reduceIte, Option.bind_some, Option.bind_none, kitB_ll, kitB_lt, kitB_tt, kitB_tl, kitB_ii, tyD_list, tyD_int, Bool.true_and, Bool.false_and, Bool.and_true, Bool.and_false, Bool.or_true, Bool.true_or, Bool.false_or, Bool.or_false, Bool.and_self, Bool.or_self, e_cAK, List.append_nil, List.nil_append, List.cons_append, e_andB, e_orB, e_andR, e_orR, tyD_tuple, eqv_bool, eqv_none, tyD_bool, tyD_str, tyD_none, kitB_bb, kitB_nb, kitB_bi, kitB_ib, kitB_nl, kitB_nt, beq_self_eq_true, p2, Rs.out_ex, Out.then_ex]
    rfl
end
/-! ### joined plans -/
section
variable {m n m2 n2 : Nat} {ss tt : List Stp} {os os2 : List Nat} {ls : List (Option Nat)}
theorem task_of_T (hS : StpsOk m n ss) (hn : n ≤ 6) (hm : m ≤ 1000) (h8 : ss.length ≤ 8) : F_task_of [.d (progD m n (.tuple (ss.map Stp.d)) (.tuple (os.map natI)))] = .ok (.d (encT (usP ss) (osI os))) := by
  have hT : PyData.tuple [.tuple (ss.map fun s => .tuple ((s.row ss.length).map .int)), .tuple (os.map natI)] = encT (usP ss) (osI os) := by
    unfold encT encU usP osI
    rw [List.map_map, List.map_map]
    rfl
  have p1 := task_of_ok m n ss os hm hn hS h8
  rw [hT] at p1
  exact p1
theorem prog_outs (m n : Nat) (ss : List Stp) (os : List Nat) : gIx (.d (progD m n (.tuple (ss.map Stp.d)) (.tuple (os.map natI)))) (.d (.int 3)) = .ok (.d (tupD (osI os))) := by
  show Rs.ok (RV.d (.tuple (os.map natI))) = .ok (.d (.tuple ((osI os).map .int)))
  unfold osI
  rw [List.map_map]
  rfl
/-- a list that came in -/
def LsI (PL : RV) (p : List Int) : Prop := PL = .d (.list (p.map .int)) ∨ PL = .bl (p.map .int)
theorem LsI.ix {PL : RV} {p : List Int} (h : LsI PL p) {i : Nat} {s : Int} (hs : p[i]? = some s) : gIx PL (.d (.int (i : Int))) = .ok (.d (.int s)) := by
  have hi := (List.getElem?_eq_some_iff.mp hs).1
  rcases h with rfl | rfl <;>
  · show (rsO (atI (p.map PyData.int) (i : Int))).bind _ = _
    rw [atI_cons _ _ (by rw [List.length_map]; exact hi), List.getElem?_map, hs]
    rfl
theorem LsI.len {PL : RV} {p : List Int} (h : LsI PL p) (hl : p.length ≤ 1000) : gLen [PL] = .ok (.d (.int p.length)) := by
  have e : (p.map PyData.int).length = p.length := List.length_map ..
  rcases h with rfl | rfl
  · rw [e_lenL, e]
  · show Rs.ok _ = _; rw [e]
theorem LsI.bor {PL : RV} {p : List Int} (h : LsI PL p) : PL.bor = PL := by rcases h with rfl | rfl <;> rfl
theorem LsI.arg {PL : RV} {p : List Int} (h : LsI PL p) : PL.arg = PL := by rcases h with rfl | rfl <;> rfl
theorem LsI.listC {PL : RV} {p : List Int} (h : LsI PL p) : gListC [PL] = .ok (.ol (p.map .int)) := by rcases h with rfl | rfl <;> rfl
theorem LsI.aqb {PL : RV} {p : List Int} (h : LsI PL p) : gAqb PL = .ok (p.map .int) := by rcases h with rfl | rfl <;> rfl
theorem LsI.qv {PL : RV} {p : List Int} (h : LsI PL p) : PL.qv = some (p.map .int) := by rcases h with rfl | rfl <;> rfl
theorem check_plan_ok (hS : StpsOk m n ss) (hn : n ≤ 6) (hm : m ≤ 1000) (h8 : ss.length ≤ 8) {PL : RV} (p : List Int) (hP : LsI PL p) (g : goodM (usP ss) [] p) (hp : p.length ≤ 450) :
    F_check_plan [.d (progD m n (.tuple (ss.map Stp.d)) (.tuple (os.map natI))), PL] = if endM [] p = osI os then .ok (.d .none) else .ex 1 [("place", .int (-1)), ("what", .str "other targets")] := by
  have p1 := task_of_T (os := os) hS hn hm h8
  have p2 := walk_ok (usP ss) (osI os) PL hP.bor p [] (fun i s hs => hP.ix hs) (hP.len (by omega)) g (by simp; omega)
  obtain ⟨xs, hxs⟩ := confs_last p []
  rw [hxs, List.map_append] at p2
  have p2 : F_walk [.d (encT (usP ss) (osI os)), PL, .d (.tuple [])] = .ok (.ol (xs.map tupD ++ [tupD (endM [] p)])) := p2
  have h3 := prog_outs m n ss os
  have sh : SeqAt.shaped (tupD (osI os)) = true := sh_tup _
  have sh2 : SeqAt.shaped (tupD (endM [] p)) = true := sh_tup _
  have ha := hP.arg
  have hb := hP.bor
  show (B_check_plan [some (.d (progD m n (.tuple (ss.map Stp.d)) (.tuple (os.map natI)))), some PL]).fin = _
  have ev : PyData.eqv (tupD (endM [] p)) (tupD (osI os)) = decide (endM [] p = osI os) := eqv_tup _ _
  unfold B_check_plan
  by_cases c : endM [] p = osI os
  · rw [if_pos c]
    rw [decide_eq_true c] at ev
    generalize tupD (osI os) = OO at *
    generalize tupD (endM [] p) = O2 at *
    generalize xs.map tupD = XX at *
    generalize encT (usP ss) (osI os) = EE at *
    generalize progD m n (.tuple (ss.map Stp.d)) (.tuple (os.map natI)) = PP at *
    simp only [e_nil, e_seq, e_fz, e_bk, e_ct, e_ret, e_retN, e_drop, e_set, e_if, e_for, e_cC, e_c2, e_c1, e_cA, e_aN, e_aC, e_cB, e_asB, e_bNot, e_bAnd, e_bOr, e_vAnd, e_vOr, e_vNot, e_vIf, e_bYes, e_iL, e_iT, e_iLb, e_iR, e_gL1, e_gL2, e_gL3, e_gT, e_gLb1, e_gLb2, e_gLb3, e_gLb4, e_nb1, e_nb2, e_bor1, e_bor2, e_bor3, e_bor4, e_arg1, e_arg2, e_arg3, e_arg4, e_putd, e_puto, e_toD1, e_toD2, e_allD0, e_allD1, e_allD2, e_gTupl, e_gList, e_tgnm, e_tgtp, e_tg0, e_tg1, e_sq1, e_sq2, e_sq3, e_sq4, e_sq5, e_qv2, e_qv3, e_qv4, e_qv5, e_data1, e_data2, e_data3, e_okI, e_okB, e_i2, e_sub, e_mul, e_mod, e_div, e_pow, e_lt, e_le, e_gt, e_ge, e_neg, e_addI, e_addS, e_addT, e_addL1, e_addL2, e_addL3, e_addL4, e_addL5, e_addL6, e_addL7, e_addL8, e_addL9, e_eq, e_ne, e_in, e_notIn, e_inT, e_inT2, e_inL1, e_inL2, e_inL3, e_is, e_isNot, e_isN1, e_isN2, e_isN3, e_isN4, e_isN5, e_isN6, e_isN7, e_ixT, e_ixL, e_ixO, e_ixB, e_ixSc, e_lenT, e_lenL, e_lenO, e_lenB, e_lenSc, e_lenS, e_tupT, e_tupL, e_tupO, e_tupB, e_lisT, e_lisL, e_lisO, e_lisB, e_min2, e_max2, e_any, e_all, e_sum, e_sorted, e_rev, e_sl, e_oN, e_isi, e_lc, e_wipe0, e_wipe1, e_iA, e_iAb, e_gAq1, e_gAq2, e_gAq3, e_gAqb1, e_gAqb2, e_gAqb3, e_gAqb4, e_no, e_cCh, e_cChI, e_aug, e_decT, e_decF, e_cDispS, e_cDT, e_cDK, e_cDisp1, e_storeA, e_stR1, e_stR2, e_stR3, e_sd1, e_keyD1, e_keyD2, e_keyTD, e_intsD, e_intsD0, e_borT, e_borT2, e_borK, e_borK2, e_argT, e_argT2, e_argK, e_argK2, e_nbT, e_nbK, e_putT, e_putK, e_gAt1, e_gAt2, e_gAt3, e_gAt4, e_gGetDK, e_gGetDT, e_gIxD, e_gInD, e_gNotInD, e_cGet1, e_cGet2, e_dk1, e_dk2, e_dk3, e_dk4, e_dt1, e_dt2, e_del, atI_zero, e_at1, e_at2, e_at3, e_at4, e_at5, e_at6, e_at7, e_at8, e_at9, e_atm, e_V, e_retV, e_unp, e_app, e_store, e_fzE, oS, rsO_some, Rs.bind_ok, Rs.bind_no, Rs.out_ok, Out.then_nx, Out.then_rt, Out.then_ct, Out.then_bk, fin_rt, fin_nx, List.getElem?_cons_zero, List.getElem?_cons_succ, List.set_cons_succ, List.set_cons_zero, List.length_cons, List.length_nil, Nat.reduceAdd, Nat.reduceLT, Nat.reduceLeDiff, Nat.reduceEqDiff, if_true, if_false, Bool.false_eq_true, Bool.not_true, Bool.not_false, and_self, true_and, and_true, List.map_cons, List.map_nil, Option.map_some, sh_int, sh_bool, sh_none, sh_tup, sh_lst, eqv_int, reduceIte, Option.bind_some, Option.bind_none, kitB_ll, kitB_lt, kitB_tt, kitB_tl, kitB_ii, tyD_list, tyD_int, Bool.true_and, Bool.false_and, Bool.and_true, Bool.and_false, Bool.or_true, Bool.true_or, Bool.false_or, Bool.or_false, Bool.and_self, Bool.or_self, e_cAK, List.append_nil, List.nil_append, List.cons_append, e_andB, e_orB, e_andR, e_orR, tyD_tuple, eqv_bool, eqv_none, tyD_bool, tyD_str, tyD_none, kitB_bb, kitB_nb, kitB_bi, kitB_ib, kitB_nl, kitB_nt, beq_self_eq_true, p1, hb, ha, p2, h3, sh, sh2, ev]
  · rw [if_neg c]
    rw [decide_eq_false c] at ev
    generalize tupD (osI os) = OO at *
    generalize tupD (endM [] p) = O2 at *
    generalize xs.map tupD = XX at *
    generalize encT (usP ss) (osI os) = EE at *
    generalize progD m n (.tuple (ss.map Stp.d)) (.tuple (os.map natI)) = PP at *
    simp only [e_nil, e_seq, e_fz, e_bk, e_ct, e_ret, e_retN, e_drop, e_set, e_if, e_for, e_cC, e_c2, e_c1, e_cA, e_aN, e_aC, e_cB, e_asB, e_bNot, e_bAnd, e_bOr, e_vAnd, e_vOr, e_vNot, e_vIf, e_bYes, e_iL, e_iT, e_iLb, e_iR, e_gL1, e_gL2, e_gL3, e_gT, e_gLb1, e_gLb2, e_gLb3, e_gLb4, e_nb1, e_nb2, e_bor1, e_bor2, e_bor3, e_bor4, e_arg1, e_arg2, e_arg3, e_arg4, e_putd, e_puto, e_toD1, e_toD2, e_allD0, e_allD1, e_allD2, e_gTupl, e_gList, e_tgnm, e_tgtp, e_tg0, e_tg1, e_sq1, e_sq2, e_sq3, e_sq4, e_sq5, e_qv2, e_qv3, e_qv4, e_qv5, e_data1, e_data2, e_data3, e_okI, e_okB, e_i2, e_sub, e_mul, e_mod, e_div, e_pow, e_lt, e_le, e_gt, e_ge, e_neg, e_addI, e_addS, e_addT, e_addL1, e_addL2, e_addL3, e_addL4, e_addL5, e_addL6, e_addL7, e_addL8, e_addL9, e_eq, e_ne, e_in, e_notIn, e_inT, e_inT2, e_inL1, e_inL2, e_inL3, e_is, e_isNot, e_isN1, e_isN2, e_isN3, e_isN4, e_isN5, e_isN6, e_isN7, e_ixT, e_ixL, e_ixO, e_ixB, e_ixSc, e_lenT, e_lenL, e_lenO, e_lenB, e_lenSc, e_lenS, e_tupT, e_tupL, e_tupO, e_tupB, e_lisT, e_lisL, e_lisO, e_lisB, e_min2, e_max2, e_any, e_all, e_sum, e_sorted, e_rev, e_sl, e_oN, e_isi, e_lc, e_wipe0, e_wipe1, e_iA, e_iAb, e_gAq1, e_gAq2, e_gAq3, e_gAqb1, e_gAqb2, e_gAqb3, e_gAqb4, e_no, e_cCh, e_cChI, e_aug, e_decT, e_decF, e_cDispS, e_cDT, e_cDK, e_cDisp1, e_storeA, e_stR1, e_stR2, e_stR3, e_sd1, e_keyD1, e_keyD2, e_keyTD, e_intsD, e_intsD0, e_borT, e_borT2, e_borK, e_borK2, e_argT, e_argT2, e_argK, e_argK2, e_nbT, e_nbK, e_putT, e_putK, e_gAt1, e_gAt2, e_gAt3, e_gAt4, e_gGetDK, e_gGetDT, e_gIxD, e_gInD, e_gNotInD, e_cGet1, e_cGet2, e_dk1, e_dk2, e_dk3, e_dk4, e_dt1, e_dt2, e_del, atI_zero, e_at1, e_at2, e_at3, e_at4, e_at5, e_at6, e_at7, e_at8, e_at9, e_atm, e_V, e_retV, e_unp, e_app, e_store, e_fzE, oS, rsO_some, Rs.bind_ok, Rs.bind_no, Rs.out_ok, Out.then_nx, Out.then_rt, Out.then_ct, Out.then_bk, fin_rt, fin_nx, List.getElem?_cons_zero, List.getElem?_cons_succ, List.set_cons_succ, List.set_cons_zero, List.length_cons, List.length_nil, Nat.reduceAdd, Nat.reduceLT, Nat.reduceLeDiff, Nat.reduceEqDiff, if_true, if_false, Bool.false_eq_true, Bool.not_true, Bool.not_false, and_self, true_and, and_true, List.map_cons, List.map_nil, Option.map_some, sh_int, sh_bool, sh_none, sh_tup, sh_lst, eqv_int, reduceIte, Option.bind_some, Option.bind_none, kitB_ll, kitB_lt, kitB_tt, kitB_tl, kitB_ii, tyD_list, tyD_int, Bool.true_and, Bool.false_and, Bool.and_true, Bool.and_false, Bool.or_true, Bool.true_or, Bool.false_or, Bool.or_false, Bool.and_self, Bool.or_self, e_cAK, List.append_nil, List.nil_append, List.cons_append, e_andB, e_orB, e_andR, e_orR, tyD_tuple, eqv_bool, eqv_none, tyD_bool, tyD_str, tyD_none, kitB_bb, kitB_nb, kitB_bi, kitB_ib, kitB_nl, kitB_nt, beq_self_eq_true, p1, hb, ha, p2, h3, sh, sh2, ev, e_raise, fld2, Out.then_ex]
    rfl
def ledP (places : List Nat) (x : Int) : Int := ((places.getD x.toNat 0 : Nat) : Int)
def movesJ (places : List Nat) (p q : List Int) (keep : Bool) : List Int := p ++ q.map (ledP places) ++ (if keep = true then [] else p.reverse)
theorem lc_moves (places : List Nat) (q : List Int) (h : ∀ x ∈ q, 0 ≤ x ∧ x < places.length) (e0 e1 e2 e3 e4 e5 e6 e7 e8 e10 : Option RV) : lcF (.nm 11) bYes (c2 gIx (cV 9) (cV 11)) [e0, e1, e2, e3, e4, e5, e6, e7, e8, some (.d (.list (places.map natI))), e10, none] (q.map .int) = .ok ((q.map (ledP places)).map .int) := by
  rw [lcF_map PyData.int (fun _ => true) (fun x => .int (ledP places x)) q fun x hx => ⟨_, rfl, rfl, fun _ => ⟨.d (.int (ledP places x)), ?_, rfl⟩⟩, List.filter_eq_self.mpr (fun _ _ => rfl), List.map_map]
  · rfl
  · have hx' := h x hx
    have hat := nats_at (ps := places) (i := x.toNat) (by omega)
    rw [show ((x.toNat : Nat) : Int) = x by omega] at hat
    generalize places.map natI = PL at *
    simp only [e_nil, e_seq, e_fz, e_bk, e_ct, e_ret, e_retN, e_drop, e_set, e_if, e_for, e_cC, e_c2, e_c1, e_cA, e_aN, e_aC, e_cB, e_asB, e_bNot, e_bAnd, e_bOr, e_vAnd, e_vOr, e_vNot, e_vIf, e_bYes, e_iL, e_iT, e_iLb, e_iR, e_gL1, e_gL2, e_gL3, e_gT, e_gLb1, e_gLb2, e_gLb3, e_gLb4, e_nb1, e_nb2, e_bor1, e_bor2, e_bor3, e_bor4, e_arg1, e_arg2, e_arg3, e_arg4, e_putd, e_puto, e_toD1, e_toD2, e_allD0, e_allD1, e_allD2, e_gTupl, e_gList, e_tgnm, e_tgtp, e_tg0, e_tg1, e_sq1, e_sq2, e_sq3, e_sq4, e_sq5, e_qv2, e_qv3, e_qv4, e_qv5, e_data1, e_data2, e_data3, e_okI, e_okB, e_i2, e_sub, e_mul, e_mod, e_div, e_pow, e_lt, e_le, e_gt, e_ge, e_neg, e_addI, e_addS, e_addT, e_addL1, e_addL2, e_addL3, e_addL4, e_addL5, e_addL6, e_addL7, e_addL8, e_addL9, e_eq, e_ne, e_in, e_notIn, e_inT, e_inT2, e_inL1, e_inL2, e_inL3, e_is, e_isNot, e_isN1, e_isN2, e_isN3, e_isN4, e_isN5, e_isN6, e_isN7, e_ixT, e_ixL, e_ixO, e_ixB, e_ixSc, e_lenT, e_lenL, e_lenO, e_lenB, e_lenSc, e_lenS, e_tupT, e_tupL, e_tupO, e_tupB, e_lisT, e_lisL, e_lisO, e_lisB, e_min2, e_max2, e_any, e_all, e_sum, e_sorted, e_rev, e_sl, e_oN, e_isi, e_lc, e_wipe0, e_wipe1, e_iA, e_iAb, e_gAq1, e_gAq2, e_gAq3, e_gAqb1, e_gAqb2, e_gAqb3, e_gAqb4, e_no, e_cCh, e_cChI, e_aug, e_decT, e_decF, e_cDispS, e_cDT, e_cDK, e_cDisp1, e_storeA, e_stR1, e_stR2, e_stR3, e_sd1, e_keyD1, e_keyD2, e_keyTD, e_intsD, e_intsD0, e_borT, e_borT2, e_borK, e_borK2, e_argT, e_argT2, e_argK, e_argK2, e_nbT, e_nbK, e_putT, e_putK, e_gAt1, e_gAt2, e_gAt3, e_gAt4, e_gGetDK, e_gGetDT, e_gIxD, e_gInD, e_gNotInD, e_cGet1, e_cGet2, e_dk1, e_dk2, e_dk3, e_dk4, e_dt1, e_dt2, e_del, atI_zero, e_at1, e_at2, e_at3, e_at4, e_at5, e_at6, e_at7, e_at8, e_at9, e_atm, e_V, e_retV, e_unp, e_app, e_store, e_fzE, oS, rsO_some, Rs.bind_ok, Rs.bind_no, Rs.out_ok, Out.then_nx, Out.then_rt, Out.then_ct, Out.then_bk, fin_rt, fin_nx, List.getElem?_cons_zero, List.getElem?_cons_succ, List.set_cons_succ, List.set_cons_zero, List.length_cons, List.length_nil, Nat.reduceAdd, Nat.reduceLT, Nat.reduceLeDiff, Nat.reduceEqDiff, if_true, if_false, Bool.false_eq_true, Bool.not_true, Bool.not_false, and_self, true_and, and_true, List.map_cons, List.map_nil, Option.map_some, sh_int, sh_bool, sh_none, sh_tup, sh_lst, eqv_int, reduceIte, Option.bind_some, Option.bind_none, kitB_ll, kitB_lt, kitB_tt, kitB_tl, kitB_ii, tyD_list, tyD_int, Bool.true_and, Bool.false_and, Bool.and_true, Bool.and_false, Bool.or_true, Bool.true_or, Bool.false_or, Bool.or_false, Bool.and_self, Bool.or_self, e_cAK, List.append_nil, List.nil_append, List.cons_append, e_andB, e_orB, e_andR, e_orR, tyD_tuple, eqv_bool, eqv_none, tyD_bool, tyD_str, tyD_none, kitB_bb, kitB_nb, kitB_bi, kitB_ib, kitB_nl, kitB_nt, beq_self_eq_true, ledP, hat]
theorem plan_ok (hS : StpsOk m n ss) (hS2 : StpsOk m2 n2 tt) (hn2 : n2 ≤ 6) (hm : m ≤ 1000) (hm2 : m2 ≤ 1000) (hn : n ≤ 6) (hl : ss.length ≤ 8) (hl2 : tt.length ≤ 8) (hls : ls.length = n2) (hk : ∀ k, some k ∈ ls → k < 100000) (ho2 : ∀ o ∈ os2, o < tt.length) (ho : os.length ≤ 1000) (ho2' : os2.length ≤ 1000) (keep : Bool)
    {PL QL : RV} (p q : List Int) (hP : LsI PL p) (hQ : LsI QL q) (g : goodM (usP ss) [] p) (g2 : goodM (usP tt) [] q) (e : endM [] p = osI os) (e2 : endM [] q = osI os2) (hp : p.length ≤ 450) (hq : q.length ≤ 450) :
    F_joined_plan [.d (progD m n (.tuple (ss.map Stp.d)) (.tuple (os.map natI))), .d (progD m2 n2 (.tuple (tt.map Stp.d)) (.tuple (os2.map natI))), .d (.tuple (ls.map lkD)), PL, QL, .d (.bool keep)] =
      match faultJ m n m2 os ls (joinM (namesM n ls) ss tt).1 with
      | some (w, x) => .ex 3 [("place", .int x), ("what", .str w)]
      | none => if (joinM (namesM n ls) ss tt).1.length ≠ ss.length + tt.length then .ex 3 [("place", .int (-1)), ("what", .str "shared steps")]
        else if 255 < (movesJ (joinM (namesM n ls) ss tt).2 p q keep).length then .ex 3 [("place", .int (-1)), ("what", .str "too many moves")]
        else .ok (.ol ((movesJ (joinM (namesM n ls) ss tt).2 p q keep).map .int)) := by
  have p1 := check_plan_ok (os := os) hS hn hm hl p hP g hp
  have p2 := check_plan_ok (os := os2) hS2 hn2 hm2 hl2 q hQ g2 hq
  rw [if_pos e] at p1
  rw [if_pos e2] at p2
  have p3 := joined_ok (m := m) (n := n) (ss := ss) (os := os) hS2 (by omega) hm2 (by omega) (by omega) (by omega) hls hk ho2 ho ho2' keep
  have p4 := put_ok (m := m) (n := n) (ss := ss) (out := .tuple (os.map natI)) (out2 := .tuple (os2.map natI)) hS2 (by omega) hm2 (by omega) (by omega) (by omega) hls hk
  have jo := join_ok (names := namesM n ls) (ss := ss) tt
  obtain ⟨st, hst⟩ : ∃ st, st = joinM (namesM n ls) ss tt := ⟨_, rfl⟩
  rw [← hst] at p3 p4 jo ⊢
  obtain ⟨steps, places⟩ := st
  have jl := jo.len
  have jh := jo.hi
  simp only at p3 p4 jl jh ⊢
  have hle : gLen [.d (.list (steps.map Stp.d))] = .ok (.d (.int (steps.length : Int))) := by rw [e_lenL, List.length_map]
  have h2 : gIx (.d (progD m n (.tuple (ss.map Stp.d)) (.tuple (os.map natI)))) (.d (.int 2)) = .ok (.d (.tuple (ss.map Stp.d))) := rfl
  have h2' : gIx (.d (progD m2 n2 (.tuple (tt.map Stp.d)) (.tuple (os2.map natI)))) (.d (.int 2)) = .ok (.d (.tuple (tt.map Stp.d))) := rfl
  have l1 : gLen [.d (.tuple (ss.map Stp.d))] = .ok (.d (.int (ss.length : Int))) := by rw [e_lenT, List.length_map]
  have l2 : gLen [.d (.tuple (tt.map Stp.d))] = .ok (.d (.int (tt.length : Int))) := by rw [e_lenT, List.length_map]
  have htg : ∀ (a b c : PyData) env, tgE (.tp [7, 8, 9]) (.tuple [a, b, c]) env = tgEs [7, 8, 9] [a, b, c] env := fun _ _ _ _ => rfl
  have inr : ∀ x ∈ q, 0 ≤ x ∧ x < places.length := by
    have key : ∀ (q h : List Int), goodM (usP tt) h q → ∀ x ∈ q, 0 ≤ x ∧ x < (usP tt).length := by
      intro q
      induction q with
      | nil => intro _ _ y hy; cases hy
      | cons z q ih =>
        intro h g y hy
        rcases List.mem_cons.mp hy with rfl | hy
        · have := g.1; omega
        · exact ih _ g.2 y hy
    intro x hx
    have := key q [] g2 x hx
    rw [show (usP tt).length = tt.length from List.length_map ..] at this
    omega
  have lcm := fun e0 e1 e2 e3 e4 e5 e6 e7 e8 e10 => lc_moves places q inr e0 e1 e2 e3 e4 e5 e6 e7 e8 e10
  have a1 := hP.arg
  have a2 := hQ.arg
  have b1 := hP.bor
  have b2 := hQ.bor
  have c1 := hP.listC
  have c2' := hQ.aqb
  have c3 := hP.qv
  have z0 : (q.map PyData.int).length ≤ 1000000 := by rw [List.length_map]; omega
  have z1 : (p.map PyData.int).length + ((q.map (ledP places)).map PyData.int).length ≤ 1000000 := by rw [List.length_map, List.length_map, List.length_map]; omega
  have z2 : (p.map PyData.int ++ (q.map (ledP places)).map PyData.int).length + ((p.map PyData.int).reverse).length ≤ 1000000 := by rw [List.length_append, List.length_reverse, List.length_map, List.length_map, List.length_map]; omega
  show (B_joined_plan [some (.d (progD m n (.tuple (ss.map Stp.d)) (.tuple (os.map natI)))), some (.d (progD m2 n2 (.tuple (tt.map Stp.d)) (.tuple (os2.map natI)))), some (.d (.tuple (ls.map lkD))), some PL, some QL, some (.d (.bool keep)), none, none, none, none, none, none]).fin = _
  unfold B_joined_plan
  cases hf : faultJ m n m2 os ls steps with
  | some wx =>
    obtain ⟨w, x⟩ := wx
    rw [hf] at p3
    simp only at p3 ⊢
    generalize ls.map lkD = LL at *
    generalize progD m2 n2 (.tuple (tt.map Stp.d)) (.tuple (os2.map natI)) = P2 at *
    generalize progD m n (.tuple (ss.map Stp.d)) (.tuple (os.map natI)) = PP at *
    simp only [e_nil, e_seq, e_fz, e_bk, e_ct, e_ret, e_retN, e_drop, e_set, e_if, e_for, e_cC, e_c2, e_c1, e_cA, e_aN, e_aC, e_cB, e_asB, e_bNot, e_bAnd, e_bOr, e_vAnd, e_vOr, e_vNot, e_vIf, e_bYes, e_iL, e_iT, e_iLb, e_iR, e_gL1, e_gL2, e_gL3, e_gT, e_gLb1, e_gLb2, e_gLb3, e_gLb4, e_nb1, e_nb2, e_bor1, e_bor2, e_bor3, e_bor4, e_arg1, e_arg2, e_arg3, e_arg4, e_putd, e_puto, e_toD1, e_toD2, e_allD0, e_allD1, e_allD2, e_gTupl, e_gList, e_tgnm, e_tgtp, e_tg0, e_tg1, e_sq1, e_sq2, e_sq3, e_sq4, e_sq5, e_qv2, e_qv3, e_qv4, e_qv5, e_data1, e_data2, e_data3, e_okI, e_okB, e_i2, e_sub, e_mul, e_mod, e_div, e_pow, e_lt, e_le, e_gt, e_ge, e_neg, e_addI, e_addS, e_addT, e_addL1, e_addL2, e_addL3, e_addL4, e_addL5, e_addL6, e_addL7, e_addL8, e_addL9, e_eq, e_ne, e_in, e_notIn, e_inT, e_inT2, e_inL1, e_inL2, e_inL3, e_is, e_isNot, e_isN1, e_isN2, e_isN3, e_isN4, e_isN5, e_isN6, e_isN7, e_ixT, e_ixL, e_ixO, e_ixB, e_ixSc, e_lenT, e_lenL, e_lenO, e_lenB, e_lenSc, e_lenS, e_tupT, e_tupL, e_tupO, e_tupB, e_lisT, e_lisL, e_lisO, e_lisB, e_min2, e_max2, e_any, e_all, e_sum, e_sorted, e_rev, e_sl, e_oN, e_isi, e_lc, e_wipe0, e_wipe1, e_iA, e_iAb, e_gAq1, e_gAq2, e_gAq3, e_gAqb1, e_gAqb2, e_gAqb3, e_gAqb4, e_no, e_cCh, e_cChI, e_aug, e_decT, e_decF, e_cDispS, e_cDT, e_cDK, e_cDisp1, e_storeA, e_stR1, e_stR2, e_stR3, e_sd1, e_keyD1, e_keyD2, e_keyTD, e_intsD, e_intsD0, e_borT, e_borT2, e_borK, e_borK2, e_argT, e_argT2, e_argK, e_argK2, e_nbT, e_nbK, e_putT, e_putK, e_gAt1, e_gAt2, e_gAt3, e_gAt4, e_gGetDK, e_gGetDT, e_gIxD, e_gInD, e_gNotInD, e_cGet1, e_cGet2, e_dk1, e_dk2, e_dk3, e_dk4, e_dt1, e_dt2, e_del, atI_zero, e_at1, e_at2, e_at3, e_at4, e_at5, e_at6, e_at7, e_at8, e_at9, e_atm, e_V, e_retV, e_unp, e_app, e_store, e_fzE, oS, rsO_some, Rs.bind_ok, Rs.bind_no, Rs.out_ok, Out.then_nx, Out.then_rt, Out.then_ct, Out.then_bk, fin_rt, fin_nx, List.getElem?_cons_zero, List.getElem?_cons_succ, List.set_cons_succ, List.set_cons_zero, List.length_cons, List.length_nil, Nat.reduceAdd, Nat.reduceLT, Nat.reduceLeDiff, Nat.reduceEqDiff, if_true, if_false, Bool.false_eq_true, Bool.not_true, Bool.not_false, and_self, true_and, and_true, List.map_cons, List.map_nil, Option.map_some, sh_int, sh_bool, sh_none, sh_tup, sh_lst, eqv_int, reduceIte, Option.bind_some, Option.bind_none, kitB_ll, kitB_lt, kitB_tt, kitB_tl, kitB_ii, tyD_list, tyD_int, Bool.true_and, Bool.false_and, Bool.and_true, Bool.and_false, Bool.or_true, Bool.true_or, Bool.false_or, Bool.or_false, Bool.and_self, Bool.or_self, e_cAK, List.append_nil, List.nil_append, List.cons_append, e_andB, e_orB, e_andR, e_orR, tyD_tuple, eqv_bool, eqv_none, tyD_bool, tyD_str, tyD_none, kitB_bb, kitB_nb, kitB_bi, kitB_ib, kitB_nl, kitB_nt, beq_self_eq_true, a1, a2, b1, b2, p1, p2, p3, Rs.out_ex, Out.then_ex]
    rfl
  | none =>
    rw [hf] at p3
    simp only at p3 ⊢
    by_cases c0 : steps.length = ss.length + tt.length
    · have d0 : (!decide ((steps.length : Int) = (ss.length : Int) + (tt.length : Int))) = false := by rw [decide_eq_true (by omega)]; rfl
      rw [if_neg (fun z => z c0)]
      have hmv : movesJ places p q keep = p ++ q.map (ledP places) ++ (if keep = true then [] else p.reverse) := rfl
      have hml : (movesJ places p q keep).length = p.length + q.length + (if keep = true then 0 else p.length) := by
        rw [hmv, List.length_append, List.length_append, List.length_map]
        cases keep with
        | true => rfl
        | false => simp
      have hm1 : (movesJ places p q keep).map PyData.int = p.map .int ++ (q.map (ledP places)).map .int ++ (if keep = true then [] else (p.map PyData.int).reverse) := by
        rw [hmv, List.map_append, List.map_append]
        cases keep with
        | true => rfl
        | false => rw [if_neg (by decide), if_neg (by decide), List.map_reverse]
      have zM : (movesJ places p q keep).length ≤ 1000000 := by rw [hml]; split <;> omega
      generalize joinedD m n ls (steps, places) os os2 keep = JD at *
      cases keep with
      | true =>
        rw [if_pos rfl, List.append_nil] at hm1
        have hz : (p.map PyData.int ++ (q.map (ledP places)).map PyData.int).length = (movesJ places p q true).length := by rw [← hm1, List.length_map]
        have lll : (p.map PyData.int).length + ((q.map (ledP places)).map PyData.int).length = (movesJ places p q true).length := by rw [← List.length_append]; exact hz
        by_cases c1' : 255 < (movesJ places p q true).length
        · have d1 : decide (((movesJ places p q true).length : Int) > 255) = true := decide_eq_true (by omega)
          rw [if_pos c1']
          generalize movesJ places p q true = MV at *
          generalize (q.map (ledP places)).map PyData.int = Q2 at *
          generalize p.map PyData.int = P1 at *
          generalize q.map PyData.int = Q1 at *
          generalize places.map natI = JP at *
          generalize steps.map Stp.d = SD at *
          generalize ls.map lkD = LL at *
          generalize progD m2 n2 (.tuple (tt.map Stp.d)) (.tuple (os2.map natI)) = P2 at *
          generalize progD m n (.tuple (ss.map Stp.d)) (.tuple (os.map natI)) = PP at *
          simp only [e_nil, e_seq, e_fz, e_bk, e_ct, e_ret, e_retN, e_drop, e_set, e_if, e_for, e_cC, e_c2, e_c1, e_cA, e_aN, e_aC, e_cB, e_asB, e_bNot, e_bAnd, e_bOr, e_vAnd, e_vOr, e_vNot, e_vIf, e_bYes, e_iL, e_iT, e_iLb, e_iR, e_gL1, e_gL2, e_gL3, e_gT, e_gLb1, e_gLb2, e_gLb3, e_gLb4, e_nb1, e_nb2, e_bor1, e_bor2, e_bor3, e_bor4, e_arg1, e_arg2, e_arg3, e_arg4, e_putd, e_puto, e_toD1, e_toD2, e_allD0, e_allD1, e_allD2, e_gTupl, e_gList, e_tgnm, e_tgtp, e_tg0, e_tg1, e_sq1, e_sq2, e_sq3, e_sq4, e_sq5, e_qv2, e_qv3, e_qv4, e_qv5, e_data1, e_data2, e_data3, e_okI, e_okB, e_i2, e_sub, e_mul, e_mod, e_div, e_pow, e_lt, e_le, e_gt, e_ge, e_neg, e_addI, e_addS, e_addT, e_addL1, e_addL2, e_addL3, e_addL4, e_addL5, e_addL6, e_addL7, e_addL8, e_addL9, e_eq, e_ne, e_in, e_notIn, e_inT, e_inT2, e_inL1, e_inL2, e_inL3, e_is, e_isNot, e_isN1, e_isN2, e_isN3, e_isN4, e_isN5, e_isN6, e_isN7, e_ixT, e_ixL, e_ixO, e_ixB, e_ixSc, e_lenT, e_lenL, e_lenO, e_lenB, e_lenSc, e_lenS, e_tupT, e_tupL, e_tupO, e_tupB, e_lisT, e_lisL, e_lisO, e_lisB, e_min2, e_max2, e_any, e_all, e_sum, e_sorted, e_rev, e_sl, e_oN, e_isi, e_lc, e_wipe0, e_wipe1, e_iA, e_iAb, e_gAq1, e_gAq2, e_gAq3, e_gAqb1, e_gAqb2, e_gAqb3, e_gAqb4, e_no, e_cCh, e_cChI, e_aug, e_decT, e_decF, e_cDispS, e_cDT, e_cDK, e_cDisp1, e_storeA, e_stR1, e_stR2, e_stR3, e_sd1, e_keyD1, e_keyD2, e_keyTD, e_intsD, e_intsD0, e_borT, e_borT2, e_borK, e_borK2, e_argT, e_argT2, e_argK, e_argK2, e_nbT, e_nbK, e_putT, e_putK, e_gAt1, e_gAt2, e_gAt3, e_gAt4, e_gGetDK, e_gGetDT, e_gIxD, e_gInD, e_gNotInD, e_cGet1, e_cGet2, e_dk1, e_dk2, e_dk3, e_dk4, e_dt1, e_dt2, e_del, atI_zero, e_at1, e_at2, e_at3, e_at4, e_at5, e_at6, e_at7, e_at8, e_at9, e_atm, e_V, e_retV, e_unp, e_app, e_store, e_fzE, oS, rsO_some, Rs.bind_ok, Rs.bind_no, Rs.out_ok, Out.then_nx, Out.then_rt, Out.then_ct, Out.then_bk, fin_rt, fin_nx, List.getElem?_cons_zero, List.getElem?_cons_succ, List.set_cons_succ, List.set_cons_zero, List.length_cons, List.length_nil, Nat.reduceAdd, Nat.reduceLT, Nat.reduceLeDiff, Nat.reduceEqDiff, if_true, if_false, Bool.false_eq_true, Bool.not_true, Bool.not_false, and_self, true_and, and_true, List.map_cons, List.map_nil, Option.map_some, sh_int, sh_bool, sh_none, sh_tup, sh_lst, eqv_int, reduceIte, Option.bind_some, Option.bind_none, kitB_ll, kitB_lt, kitB_tt, kitB_tl, kitB_ii, tyD_list, tyD_int, Bool.true_and, Bool.false_and, Bool.and_true, Bool.and_false, Bool.or_true, Bool.true_or, Bool.false_or, Bool.or_false, Bool.and_self, Bool.or_self, e_cAK, List.append_nil, List.nil_append, List.cons_append, e_andB, e_orB, e_andR, e_orR, tyD_tuple, eqv_bool, eqv_none, tyD_bool, tyD_str, tyD_none, kitB_bb, kitB_nb, kitB_bi, kitB_ib, kitB_nl, kitB_nt, beq_self_eq_true, a1, a2, b1, b2, p1, p2, p3, p4, htg, hle, h2, h2', l1, l2, d0, c1, c2', if_pos z0, lcm, if_pos z1, hz, lll, if_pos zM, d1, e_raise, fld2, Out.then_ex]
          rfl
        · have d1 : decide (((movesJ places p q true).length : Int) > 255) = false := decide_eq_false (by omega)
          rw [if_neg c1']
          rw [hm1]
          generalize movesJ places p q true = MV at *
          generalize (q.map (ledP places)).map PyData.int = Q2 at *
          generalize p.map PyData.int = P1 at *
          generalize q.map PyData.int = Q1 at *
          generalize places.map natI = JP at *
          generalize steps.map Stp.d = SD at *
          generalize ls.map lkD = LL at *
          generalize progD m2 n2 (.tuple (tt.map Stp.d)) (.tuple (os2.map natI)) = P2 at *
          generalize progD m n (.tuple (ss.map Stp.d)) (.tuple (os.map natI)) = PP at *
          simp only [e_nil, e_seq, e_fz, e_bk, e_ct, e_ret, e_retN, e_drop, e_set, e_if, e_for, e_cC, e_c2, e_c1, e_cA, e_aN, e_aC, e_cB, e_asB, e_bNot, e_bAnd, e_bOr, e_vAnd, e_vOr, e_vNot, e_vIf, e_bYes, e_iL, e_iT, e_iLb, e_iR, e_gL1, e_gL2, e_gL3, e_gT, e_gLb1, e_gLb2, e_gLb3, e_gLb4, e_nb1, e_nb2, e_bor1, e_bor2, e_bor3, e_bor4, e_arg1, e_arg2, e_arg3, e_arg4, e_putd, e_puto, e_toD1, e_toD2, e_allD0, e_allD1, e_allD2, e_gTupl, e_gList, e_tgnm, e_tgtp, e_tg0, e_tg1, e_sq1, e_sq2, e_sq3, e_sq4, e_sq5, e_qv2, e_qv3, e_qv4, e_qv5, e_data1, e_data2, e_data3, e_okI, e_okB, e_i2, e_sub, e_mul, e_mod, e_div, e_pow, e_lt, e_le, e_gt, e_ge, e_neg, e_addI, e_addS, e_addT, e_addL1, e_addL2, e_addL3, e_addL4, e_addL5, e_addL6, e_addL7, e_addL8, e_addL9, e_eq, e_ne, e_in, e_notIn, e_inT, e_inT2, e_inL1, e_inL2, e_inL3, e_is, e_isNot, e_isN1, e_isN2, e_isN3, e_isN4, e_isN5, e_isN6, e_isN7, e_ixT, e_ixL, e_ixO, e_ixB, e_ixSc, e_lenT, e_lenL, e_lenO, e_lenB, e_lenSc, e_lenS, e_tupT, e_tupL, e_tupO, e_tupB, e_lisT, e_lisL, e_lisO, e_lisB, e_min2, e_max2, e_any, e_all, e_sum, e_sorted, e_rev, e_sl, e_oN, e_isi, e_lc, e_wipe0, e_wipe1, e_iA, e_iAb, e_gAq1, e_gAq2, e_gAq3, e_gAqb1, e_gAqb2, e_gAqb3, e_gAqb4, e_no, e_cCh, e_cChI, e_aug, e_decT, e_decF, e_cDispS, e_cDT, e_cDK, e_cDisp1, e_storeA, e_stR1, e_stR2, e_stR3, e_sd1, e_keyD1, e_keyD2, e_keyTD, e_intsD, e_intsD0, e_borT, e_borT2, e_borK, e_borK2, e_argT, e_argT2, e_argK, e_argK2, e_nbT, e_nbK, e_putT, e_putK, e_gAt1, e_gAt2, e_gAt3, e_gAt4, e_gGetDK, e_gGetDT, e_gIxD, e_gInD, e_gNotInD, e_cGet1, e_cGet2, e_dk1, e_dk2, e_dk3, e_dk4, e_dt1, e_dt2, e_del, atI_zero, e_at1, e_at2, e_at3, e_at4, e_at5, e_at6, e_at7, e_at8, e_at9, e_atm, e_V, e_retV, e_unp, e_app, e_store, e_fzE, oS, rsO_some, Rs.bind_ok, Rs.bind_no, Rs.out_ok, Out.then_nx, Out.then_rt, Out.then_ct, Out.then_bk, fin_rt, fin_nx, List.getElem?_cons_zero, List.getElem?_cons_succ, List.set_cons_succ, List.set_cons_zero, List.length_cons, List.length_nil, Nat.reduceAdd, Nat.reduceLT, Nat.reduceLeDiff, Nat.reduceEqDiff, if_true, if_false, Bool.false_eq_true, Bool.not_true, Bool.not_false, and_self, true_and, and_true, List.map_cons, List.map_nil, Option.map_some, sh_int, sh_bool, sh_none, sh_tup, sh_lst, eqv_int, reduceIte, Option.bind_some, Option.bind_none, kitB_ll, kitB_lt, kitB_tt, kitB_tl, kitB_ii, tyD_list, tyD_int, Bool.true_and, Bool.false_and, Bool.and_true, Bool.and_false, Bool.or_true, Bool.true_or, Bool.false_or, Bool.or_false, Bool.and_self, Bool.or_self, e_cAK, List.append_nil, List.nil_append, List.cons_append, e_andB, e_orB, e_andR, e_orR, tyD_tuple, eqv_bool, eqv_none, tyD_bool, tyD_str, tyD_none, kitB_bb, kitB_nb, kitB_bi, kitB_ib, kitB_nl, kitB_nt, beq_self_eq_true, a1, a2, b1, b2, p1, p2, p3, p4, htg, hle, h2, h2', l1, l2, d0, c1, c2', if_pos z0, lcm, if_pos z1, hz, lll, if_pos zM, d1]
      | false =>
        rw [if_neg (by decide)] at hm1
        have hz : (p.map PyData.int ++ (q.map (ledP places)).map PyData.int ++ (p.map PyData.int).reverse).length = (movesJ places p q false).length := by rw [← hm1, List.length_map]
        have lll : (p.map PyData.int).length + ((q.map (ledP places)).map PyData.int).length + ((p.map PyData.int).reverse).length = (movesJ places p q false).length := by rw [← List.length_append, ← List.length_append]; exact hz
        have lll2 : (((p.map PyData.int).length : Nat) : Int) + (((q.map (ledP places)).map PyData.int).length : Nat) + (((p.map PyData.int).reverse).length : Nat) = (((movesJ places p q false).length : Nat) : Int) := by omega
        by_cases c1' : 255 < (movesJ places p q false).length
        · have d1 : decide (((movesJ places p q false).length : Int) > 255) = true := decide_eq_true (by omega)
          rw [if_pos c1']
          generalize movesJ places p q false = MV at *
          generalize (q.map (ledP places)).map PyData.int = Q2 at *
          generalize p.map PyData.int = P1 at *
          generalize q.map PyData.int = Q1 at *
          generalize places.map natI = JP at *
          generalize steps.map Stp.d = SD at *
          generalize ls.map lkD = LL at *
          generalize progD m2 n2 (.tuple (tt.map Stp.d)) (.tuple (os2.map natI)) = P2 at *
          generalize progD m n (.tuple (ss.map Stp.d)) (.tuple (os.map natI)) = PP at *
          simp only [e_nil, e_seq, e_fz, e_bk, e_ct, e_ret, e_retN, e_drop, e_set, e_if, e_for, e_cC, e_c2, e_c1, e_cA, e_aN, e_aC, e_cB, e_asB, e_bNot, e_bAnd, e_bOr, e_vAnd, e_vOr, e_vNot, e_vIf, e_bYes, e_iL, e_iT, e_iLb, e_iR, e_gL1, e_gL2, e_gL3, e_gT, e_gLb1, e_gLb2, e_gLb3, e_gLb4, e_nb1, e_nb2, e_bor1, e_bor2, e_bor3, e_bor4, e_arg1, e_arg2, e_arg3, e_arg4, e_putd, e_puto, e_toD1, e_toD2, e_allD0, e_allD1, e_allD2, e_gTupl, e_gList, e_tgnm, e_tgtp, e_tg0, e_tg1, e_sq1, e_sq2, e_sq3, e_sq4, e_sq5, e_qv2, e_qv3, e_qv4, e_qv5, e_data1, e_data2, e_data3, e_okI, e_okB, e_i2, e_sub, e_mul, e_mod, e_div, e_pow, e_lt, e_le, e_gt, e_ge, e_neg, e_addI, e_addS, e_addT, e_addL1, e_addL2, e_addL3, e_addL4, e_addL5, e_addL6, e_addL7, e_addL8, e_addL9, e_eq, e_ne, e_in, e_notIn, e_inT, e_inT2, e_inL1, e_inL2, e_inL3, e_is, e_isNot, e_isN1, e_isN2, e_isN3, e_isN4, e_isN5, e_isN6, e_isN7, e_ixT, e_ixL, e_ixO, e_ixB, e_ixSc, e_lenT, e_lenL, e_lenO, e_lenB, e_lenSc, e_lenS, e_tupT, e_tupL, e_tupO, e_tupB, e_lisT, e_lisL, e_lisO, e_lisB, e_min2, e_max2, e_any, e_all, e_sum, e_sorted, e_rev, e_sl, e_oN, e_isi, e_lc, e_wipe0, e_wipe1, e_iA, e_iAb, e_gAq1, e_gAq2, e_gAq3, e_gAqb1, e_gAqb2, e_gAqb3, e_gAqb4, e_no, e_cCh, e_cChI, e_aug, e_decT, e_decF, e_cDispS, e_cDT, e_cDK, e_cDisp1, e_storeA, e_stR1, e_stR2, e_stR3, e_sd1, e_keyD1, e_keyD2, e_keyTD, e_intsD, e_intsD0, e_borT, e_borT2, e_borK, e_borK2, e_argT, e_argT2, e_argK, e_argK2, e_nbT, e_nbK, e_putT, e_putK, e_gAt1, e_gAt2, e_gAt3, e_gAt4, e_gGetDK, e_gGetDT, e_gIxD, e_gInD, e_gNotInD, e_cGet1, e_cGet2, e_dk1, e_dk2, e_dk3, e_dk4, e_dt1, e_dt2, e_del, atI_zero, e_at1, e_at2, e_at3, e_at4, e_at5, e_at6, e_at7, e_at8, e_at9, e_atm, e_V, e_retV, e_unp, e_app, e_store, e_fzE, oS, rsO_some, Rs.bind_ok, Rs.bind_no, Rs.out_ok, Out.then_nx, Out.then_rt, Out.then_ct, Out.then_bk, fin_rt, fin_nx, List.getElem?_cons_zero, List.getElem?_cons_succ, List.set_cons_succ, List.set_cons_zero, List.length_cons, List.length_nil, Nat.reduceAdd, Nat.reduceLT, Nat.reduceLeDiff, Nat.reduceEqDiff, if_true, if_false, Bool.false_eq_true, Bool.not_true, Bool.not_false, and_self, true_and, and_true, List.map_cons, List.map_nil, Option.map_some, sh_int, sh_bool, sh_none, sh_tup, sh_lst, eqv_int, reduceIte, Option.bind_some, Option.bind_none, kitB_ll, kitB_lt, kitB_tt, kitB_tl, kitB_ii, tyD_list, tyD_int, Bool.true_and, Bool.false_and, Bool.and_true, Bool.and_false, Bool.or_true, Bool.true_or, Bool.false_or, Bool.or_false, Bool.and_self, Bool.or_self, e_cAK, List.append_nil, List.nil_append, List.cons_append, e_andB, e_orB, e_andR, e_orR, tyD_tuple, eqv_bool, eqv_none, tyD_bool, tyD_str, tyD_none, kitB_bb, kitB_nb, kitB_bi, kitB_ib, kitB_nl, kitB_nt, beq_self_eq_true, a1, a2, b1, b2, p1, p2, p3, p4, htg, hle, h2, h2', l1, l2, d0, c1, c2', c3, if_pos z0, lcm, if_pos z1, if_pos z2, hz, lll, if_pos zM, d1, e_raise, fld2, Out.then_ex]
          rfl
        · have d1 : decide (((movesJ places p q false).length : Int) > 255) = false := decide_eq_false (by omega)
          rw [if_neg c1']
          rw [hm1]
          generalize movesJ places p q false = MV at *
          generalize (q.map (ledP places)).map PyData.int = Q2 at *
          generalize p.map PyData.int = P1 at *
          generalize q.map PyData.int = Q1 at *
          generalize places.map natI = JP at *
          generalize steps.map Stp.d = SD at *
          generalize ls.map lkD = LL at *
          generalize progD m2 n2 (.tuple (tt.map Stp.d)) (.tuple (os2.map natI)) = P2 at *
          generalize progD m n (.tuple (ss.map Stp.d)) (.tuple (os.map natI)) = PP at *
          simp only [e_nil, e_seq, e_fz, e_bk, e_ct, e_ret, e_retN, e_drop, e_set, e_if, e_for, e_cC, e_c2, e_c1, e_cA, e_aN, e_aC, e_cB, e_asB, e_bNot, e_bAnd, e_bOr, e_vAnd, e_vOr, e_vNot, e_vIf, e_bYes, e_iL, e_iT, e_iLb, e_iR, e_gL1, e_gL2, e_gL3, e_gT, e_gLb1, e_gLb2, e_gLb3, e_gLb4, e_nb1, e_nb2, e_bor1, e_bor2, e_bor3, e_bor4, e_arg1, e_arg2, e_arg3, e_arg4, e_putd, e_puto, e_toD1, e_toD2, e_allD0, e_allD1, e_allD2, e_gTupl, e_gList, e_tgnm, e_tgtp, e_tg0, e_tg1, e_sq1, e_sq2, e_sq3, e_sq4, e_sq5, e_qv2, e_qv3, e_qv4, e_qv5, e_data1, e_data2, e_data3, e_okI, e_okB, e_i2, e_sub, e_mul, e_mod, e_div, e_pow, e_lt, e_le, e_gt, e_ge, e_neg, e_addI, e_addS, e_addT, e_addL1, e_addL2, e_addL3, e_addL4, e_addL5, e_addL6, e_addL7, e_addL8, e_addL9, e_eq, e_ne, e_in, e_notIn, e_inT, e_inT2, e_inL1, e_inL2, e_inL3, e_is, e_isNot, e_isN1, e_isN2, e_isN3, e_isN4, e_isN5, e_isN6, e_isN7, e_ixT, e_ixL, e_ixO, e_ixB, e_ixSc, e_lenT, e_lenL, e_lenO, e_lenB, e_lenSc, e_lenS, e_tupT, e_tupL, e_tupO, e_tupB, e_lisT, e_lisL, e_lisO, e_lisB, e_min2, e_max2, e_any, e_all, e_sum, e_sorted, e_rev, e_sl, e_oN, e_isi, e_lc, e_wipe0, e_wipe1, e_iA, e_iAb, e_gAq1, e_gAq2, e_gAq3, e_gAqb1, e_gAqb2, e_gAqb3, e_gAqb4, e_no, e_cCh, e_cChI, e_aug, e_decT, e_decF, e_cDispS, e_cDT, e_cDK, e_cDisp1, e_storeA, e_stR1, e_stR2, e_stR3, e_sd1, e_keyD1, e_keyD2, e_keyTD, e_intsD, e_intsD0, e_borT, e_borT2, e_borK, e_borK2, e_argT, e_argT2, e_argK, e_argK2, e_nbT, e_nbK, e_putT, e_putK, e_gAt1, e_gAt2, e_gAt3, e_gAt4, e_gGetDK, e_gGetDT, e_gIxD, e_gInD, e_gNotInD, e_cGet1, e_cGet2, e_dk1, e_dk2, e_dk3, e_dk4, e_dt1, e_dt2, e_del, atI_zero, e_at1, e_at2, e_at3, e_at4, e_at5, e_at6, e_at7, e_at8, e_at9, e_atm, e_V, e_retV, e_unp, e_app, e_store, e_fzE, oS, rsO_some, Rs.bind_ok, Rs.bind_no, Rs.out_ok, Out.then_nx, Out.then_rt, Out.then_ct, Out.then_bk, fin_rt, fin_nx, List.getElem?_cons_zero, List.getElem?_cons_succ, List.set_cons_succ, List.set_cons_zero, List.length_cons, List.length_nil, Nat.reduceAdd, Nat.reduceLT, Nat.reduceLeDiff, Nat.reduceEqDiff, if_true, if_false, Bool.false_eq_true, Bool.not_true, Bool.not_false, and_self, true_and, and_true, List.map_cons, List.map_nil, Option.map_some, sh_int, sh_bool, sh_none, sh_tup, sh_lst, eqv_int, reduceIte, Option.bind_some, Option.bind_none, kitB_ll, kitB_lt, kitB_tt, kitB_tl, kitB_ii, tyD_list, tyD_int, Bool.true_and, Bool.false_and, Bool.and_true, Bool.and_false, Bool.or_true, Bool.true_or, Bool.false_or, Bool.or_false, Bool.and_self, Bool.or_self, e_cAK, List.append_nil, List.nil_append, List.cons_append, e_andB, e_orB, e_andR, e_orR, tyD_tuple, eqv_bool, eqv_none, tyD_bool, tyD_str, tyD_none, kitB_bb, kitB_nb, kitB_bi, kitB_ib, kitB_nl, kitB_nt, beq_self_eq_true, a1, a2, b1, b2, p1, p2, p3, p4, htg, hle, h2, h2', l1, l2, d0, c1, c2', c3, if_pos z0, lcm, if_pos z1, if_pos z2, hz, lll, if_pos zM, d1]
    · have d0 : (!decide ((steps.length : Int) = (ss.length : Int) + (tt.length : Int))) = true := by rw [decide_eq_false (by omega)]; rfl
      rw [if_pos c0]
      generalize joinedD m n ls (steps, places) os os2 keep = JD at *
      generalize places.map natI = JP at *
      generalize steps.map Stp.d = SD at *
      generalize ls.map lkD = LL at *
      generalize progD m2 n2 (.tuple (tt.map Stp.d)) (.tuple (os2.map natI)) = P2 at *
      generalize progD m n (.tuple (ss.map Stp.d)) (.tuple (os.map natI)) = PP at *
      simp only [e_nil, e_seq, e_fz, e_bk, e_ct, e_ret, e_retN, e_drop, e_set, e_if, e_for, e_cC, e_c2, e_c1, e_cA, e_aN, e_aC, e_cB, e_asB, e_bNot, e_bAnd, e_bOr, e_vAnd, e_vOr, e_vNot, e_vIf, e_bYes, e_iL, e_iT, e_iLb, e_iR, e_gL1, e_gL2, e_gL3, e_gT, e_gLb1, e_gLb2, e_gLb3, e_gLb4, e_nb1, e_nb2, e_bor1, e_bor2, e_bor3, e_bor4, e_arg1, e_arg2, e_arg3, e_arg4, e_putd, e_puto, e_toD1, e_toD2, e_allD0, e_allD1, e_allD2, e_gTupl, e_gList, e_tgnm, e_tgtp, e_tg0, e_tg1, e_sq1, e_sq2, e_sq3, e_sq4, e_sq5, e_qv2, e_qv3, e_qv4, e_qv5, e_data1, e_data2, e_data3, e_okI, e_okB, e_i2, e_sub, e_mul, e_mod, e_div, e_pow, e_lt, e_le, e_gt, e_ge, e_neg, e_addI, e_addS, e_addT, e_addL1, e_addL2, e_addL3, e_addL4, e_addL5, e_addL6, e_addL7, e_addL8, e_addL9, e_eq, e_ne, e_in, e_notIn, e_inT, e_inT2, e_inL1, e_inL2, e_inL3, e_is, e_isNot, e_isN1, e_isN2, e_isN3, e_isN4, e_isN5, e_isN6, e_isN7, e_ixT, e_ixL, e_ixO, e_ixB, e_ixSc, e_lenT, e_lenL, e_lenO, e_lenB, e_lenSc, e_lenS, e_tupT, e_tupL, e_tupO, e_tupB, e_lisT, e_lisL, e_lisO, e_lisB, e_min2, e_max2, e_any, e_all, e_sum, e_sorted, e_rev, e_sl, e_oN, e_isi, e_lc, e_wipe0, e_wipe1, e_iA, e_iAb, e_gAq1, e_gAq2, e_gAq3, e_gAqb1, e_gAqb2, e_gAqb3, e_gAqb4, e_no, e_cCh, e_cChI, e_aug, e_decT, e_decF, e_cDispS, e_cDT, e_cDK, e_cDisp1, e_storeA, e_stR1, e_stR2, e_stR3, e_sd1, e_keyD1, e_keyD2, e_keyTD, e_intsD, e_intsD0, e_borT, e_borT2, e_borK, e_borK2, e_argT, e_argT2, e_argK, e_argK2, e_nbT, e_nbK, e_putT, e_putK, e_gAt1, e_gAt2, e_gAt3, e_gAt4, e_gGetDK, e_gGetDT, e_gIxD, e_gInD, e_gNotInD, e_cGet1, e_cGet2, e_dk1, e_dk2, e_dk3, e_dk4, e_dt1, e_dt2, e_del, atI_zero, e_at1, e_at2, e_at3, e_at4, e_at5, e_at6, e_at7, e_at8, e_at9, e_atm, e_V, e_retV, e_unp, e_app, e_store, e_fzE, oS, rsO_some, Rs.bind_ok, Rs.bind_no, Rs.out_ok, Out.then_nx, Out.then_rt, Out.then_ct, Out.then_bk, fin_rt, fin_nx, List.getElem?_cons_zero, List.getElem?_cons_succ, List.set_cons_succ, List.set_cons_zero, List.length_cons, List.length_nil, Nat.reduceAdd, Nat.reduceLT, Nat.reduceLeDiff, Nat.reduceEqDiff, if_true, if_false, Bool.false_eq_true, Bool.not_true, Bool.not_false, and_self, true_and, and_true, List.map_cons, List.map_nil, Option.map_some, sh_int, sh_bool, sh_none, sh_tup, sh_lst, eqv_int, reduceIte, Option.bind_some, Option.bind_none, kitB_ll, kitB_lt, kitB_tt, kitB_tl, kitB_ii, tyD_list, tyD_int, Bool.true_and, Bool.false_and, Bool.and_true, Bool.and_false, Bool.or_true, Bool.true_or, Bool.false_or, Bool.or_false, Bool.and_self, Bool.or_self, e_cAK, List.append_nil, List.nil_append, List.cons_append, e_andB, e_orB, e_andR, e_orR, tyD_tuple, eqv_bool, eqv_none, tyD_bool, tyD_str, tyD_none, kitB_bb, kitB_nb, kitB_bi, kitB_ib, kitB_nl, kitB_nt, beq_self_eq_true, a1, a2, b1, b2, p1, p2, p3, p4, htg, hle, h2, h2', l1, l2, d0, e_raise, fld2, Out.then_ex]
      rfl
end
/-! ### the drawn rows -/
def rowS (n last k : Nat) : Stp := ⟨opN (k % 3), .x (n - 1), .c (last + k)⟩
def rowsS (n last count : Nat) : List Stp := (List.range count).map (rowS n last)
theorem rows_len (n last count : Nat) : (rowsS n last count).length = count := by unfold rowsS; rw [List.length_map, List.length_range]
theorem rowsS_ok (n last count : Nat) (hn : 1 ≤ n) (hl : last + count ≤ 97) : StpsOk 97 n (rowsS n last count) := by
  intro k s hk
  unfold rowsS at hk
  rw [List.getElem?_map] at hk
  obtain ⟨j, h1, rfl⟩ := Option.map_eq_some_iff.mp hk
  obtain ⟨rfl, h2⟩ := range_at h1
  exact ⟨show n - 1 < n by omega, show last + j < 97 by omega⟩
theorem rows_ok (count n last : Nat) (hc : 1 ≤ count) (hc2 : count ≤ 8) (hn : 1 ≤ n) (hn2 : n ≤ 100) (hl : last ≤ 1000) : F__law_rows [.d (.int (count : Int)), .d (.int (n : Int)), .d (.int (last : Int))] = .ok (.d (progD 97 n (.tuple ((rowsS n last count).map Stp.d)) (.tuple ([count - 1].map natI)))) := by
  obtain ⟨env', h1, e4, rfl⟩ := loopF_ex (tg := .nm 4) (f := L0__law_rows) (fun i env => ∃ e4, env = [some (.d (.int (count : Int))), some (.d (.int (n : Int))), some (.d (.int (last : Int))), some (.ol ((rowsS n last i).map Stp.d)), e4]) natI (List.range count)
    [some (.d (.int (count : Int))), some (.d (.int (n : Int))), some (.d (.int (last : Int))), some (.ol []), none] (by
    rintro i env x hx ⟨e4, rfl⟩
    obtain ⟨rfl, hi⟩ := range_at hx
    have hm := e_modN x 3 (by omega)
    have hop := ops_ix (x % 3) (Nat.mod_lt _ (by omega))
    have e1 : (n : Int) - 1 = ((n - 1 : Nat) : Int) := by omega
    have e2 : (last : Int) + (x : Int) = ((last + x : Nat) : Int) := by omega
    have s1 := str_ok (n := n - 1) (by omega)
    have s2 := str_ok (n := last + x) (by omega)
    have hx := add_lx let_x (n := n - 1) (by omega)
    have hz : ((rowsS n last x).map Stp.d).length ≤ 1000000 := by rw [List.length_map, rows_len]; omega
    have hr : (rowsS n last (x + 1)).map Stp.d = (rowsS n last x).map Stp.d ++ [(rowS n last x).d] := by
      unfold rowsS
      rw [List.range_succ, List.map_append, List.map_append]
      rfl
    have hd : PyData.tuple [.str (opN (x % 3)).str, .str (lx "x" (n - 1)), .str (numS (last + x))] = (rowS n last x).d := rfl
    refine ⟨[some (.d (.int (count : Int))), some (.d (.int (n : Int))), some (.d (.int (last : Int))), some (.ol ((rowsS n last x).map Stp.d)), some (.d (.int (x : Int)))], rfl, ?_⟩
    rw [hr]
    generalize hX : L0__law_rows _ = X
    unfold L0__law_rows at hX
    have hm : gMod (.d (.int (x : Int))) (.d (.int 3)) = _ := hm
    generalize (rowsS n last x).map Stp.d = RL at *
    generalize (rowS n last x).d = RD at *
    simp only [e_nil, e_seq, e_fz, e_bk, e_ct, e_ret, e_retN, e_drop, e_set, e_if, e_for, e_cC, e_c2, e_c1, e_cA, e_aN, e_aC, e_cB, e_asB, e_bNot, e_bAnd, e_bOr, e_vAnd, e_vOr, e_vNot, e_vIf, e_bYes, e_iL, e_iT, e_iLb, e_iR, e_gL1, e_gL2, e_gL3, e_gT, e_gLb1, e_gLb2, e_gLb3, e_gLb4, e_nb1, e_nb2, e_bor1, e_bor2, e_bor3, e_bor4, e_arg1, e_arg2, e_arg3, e_arg4, e_putd, e_puto, e_toD1, e_toD2, e_allD0, e_allD1, e_allD2, e_gTupl, e_gList, e_tgnm, e_tgtp, e_tg0, e_tg1, e_sq1, e_sq2, e_sq3, e_sq4, e_sq5, e_qv2, e_qv3, e_qv4, e_qv5, e_data1, e_data2, e_data3, e_okI, e_okB, e_i2, e_sub, e_mul, e_mod, e_div, e_pow, e_lt, e_le, e_gt, e_ge, e_neg, e_addI, e_addS, e_addT, e_addL1, e_addL2, e_addL3, e_addL4, e_addL5, e_addL6, e_addL7, e_addL8, e_addL9, e_eq, e_ne, e_in, e_notIn, e_inT, e_inT2, e_inL1, e_inL2, e_inL3, e_is, e_isNot, e_isN1, e_isN2, e_isN3, e_isN4, e_isN5, e_isN6, e_isN7, e_ixT, e_ixL, e_ixO, e_ixB, e_ixSc, e_lenT, e_lenL, e_lenO, e_lenB, e_lenSc, e_lenS, e_tupT, e_tupL, e_tupO, e_tupB, e_lisT, e_lisL, e_lisO, e_lisB, e_min2, e_max2, e_any, e_all, e_sum, e_sorted, e_rev, e_sl, e_oN, e_isi, e_lc, e_wipe0, e_wipe1, e_iA, e_iAb, e_gAq1, e_gAq2, e_gAq3, e_gAqb1, e_gAqb2, e_gAqb3, e_gAqb4, e_no, e_cCh, e_cChI, e_aug, e_decT, e_decF, e_cDispS, e_cDT, e_cDK, e_cDisp1, e_storeA, e_stR1, e_stR2, e_stR3, e_sd1, e_keyD1, e_keyD2, e_keyTD, e_intsD, e_intsD0, e_borT, e_borT2, e_borK, e_borK2, e_argT, e_argT2, e_argK, e_argK2, e_nbT, e_nbK, e_putT, e_putK, e_gAt1, e_gAt2, e_gAt3, e_gAt4, e_gGetDK, e_gGetDT, e_gIxD, e_gInD, e_gNotInD, e_cGet1, e_cGet2, e_dk1, e_dk2, e_dk3, e_dk4, e_dt1, e_dt2, e_del, atI_zero, e_at1, e_at2, e_at3, e_at4, e_at5, e_at6, e_at7, e_at8, e_at9, e_atm, e_V, e_retV, e_unp, e_app, e_store, e_fzE, oS, rsO_some, Rs.bind_ok, Rs.bind_no, Rs.out_ok, Out.then_nx, Out.then_rt, Out.then_ct, Out.then_bk, fin_rt, fin_nx, List.getElem?_cons_zero, List.getElem?_cons_succ, List.set_cons_succ, List.set_cons_zero, List.length_cons, List.length_nil, Nat.reduceAdd, Nat.reduceLT, Nat.reduceLeDiff, Nat.reduceEqDiff, if_true, if_false, Bool.false_eq_true, Bool.not_true, Bool.not_false, and_self, true_and, and_true, List.map_cons, List.map_nil, Option.map_some, sh_int, sh_bool, sh_none, sh_tup, sh_lst, eqv_int, reduceIte, Option.bind_some, Option.bind_none, kitB_ll, kitB_lt, kitB_tt, kitB_tl, kitB_ii, tyD_list, tyD_int, Bool.true_and, Bool.false_and, Bool.and_true, Bool.and_false, Bool.or_true, Bool.true_or, Bool.false_or, Bool.or_false, Bool.and_self, Bool.or_self, e_cAK, List.append_nil, List.nil_append, List.cons_append, e_andB, e_orB, e_andR, e_orR, tyD_tuple, eqv_bool, eqv_none, tyD_bool, tyD_str, tyD_none, kitB_bb, kitB_nb, kitB_bi, kitB_ib, kitB_nl, kitB_nt, beq_self_eq_true, hm, hop, e1, e2, s1, s2, hx, hd, if_pos hz] at hX
    subst hX
    exact ⟨_, .inl rfl, _, rfl⟩) ⟨none, rfl⟩
  rw [List.length_range] at h1
  have hr := e_R1n (n := count) (by omega)
  rw [rng_nat] at hr
  have e1 : (count : Int) - 1 = ((count - 1 : Nat) : Int) := by omega
  have hz : ((rowsS n last count).map Stp.d).length ≤ 1000000 := by rw [List.length_map, rows_len]; omega
  show (B__law_rows [some (.d (.int (count : Int))), some (.d (.int (n : Int))), some (.d (.int (last : Int))), none, none]).fin = _
  unfold B__law_rows
  show _ = Rs.ok (RV.d (.tuple [.int 97, .int (n : Int), .tuple ((rowsS n last count).map Stp.d), .tuple [.int ((count - 1 : Nat) : Int)]]))
  generalize (rowsS n last count).map Stp.d = RL at *
  simp only [e_nil, e_seq, e_fz, e_bk, e_ct, e_ret, e_retN, e_drop, e_set, e_if, e_for, e_cC, e_c2, e_c1, e_cA, e_aN, e_aC, e_cB, e_asB, e_bNot, e_bAnd, e_bOr, e_vAnd, e_vOr, e_vNot, e_vIf, e_bYes, e_iL, e_iT, e_iLb, e_iR, e_gL1, e_gL2, e_gL3, e_gT, e_gLb1, e_gLb2, e_gLb3, e_gLb4, e_nb1, e_nb2, e_bor1, e_bor2, e_bor3, e_bor4, e_arg1, e_arg2, e_arg3, e_arg4, e_putd, e_puto, e_toD1, e_toD2, e_allD0, e_allD1, e_allD2, e_gTupl, e_gList, e_tgnm, e_tgtp, e_tg0, e_tg1, e_sq1, e_sq2, e_sq3, e_sq4, e_sq5, e_qv2, e_qv3, e_qv4, e_qv5, e_data1, e_data2, e_data3, e_okI, e_okB, e_i2, e_sub, e_mul, e_mod, e_div, e_pow, e_lt, e_le, e_gt, e_ge, e_neg, e_addI, e_addS, e_addT, e_addL1, e_addL2, e_addL3, e_addL4, e_addL5, e_addL6, e_addL7, e_addL8, e_addL9, e_eq, e_ne, e_in, e_notIn, e_inT, e_inT2, e_inL1, e_inL2, e_inL3, e_is, e_isNot, e_isN1, e_isN2, e_isN3, e_isN4, e_isN5, e_isN6, e_isN7, e_ixT, e_ixL, e_ixO, e_ixB, e_ixSc, e_lenT, e_lenL, e_lenO, e_lenB, e_lenSc, e_lenS, e_tupT, e_tupL, e_tupO, e_tupB, e_lisT, e_lisL, e_lisO, e_lisB, e_min2, e_max2, e_any, e_all, e_sum, e_sorted, e_rev, e_sl, e_oN, e_isi, e_lc, e_wipe0, e_wipe1, e_iA, e_iAb, e_gAq1, e_gAq2, e_gAq3, e_gAqb1, e_gAqb2, e_gAqb3, e_gAqb4, e_no, e_cCh, e_cChI, e_aug, e_decT, e_decF, e_cDispS, e_cDT, e_cDK, e_cDisp1, e_storeA, e_stR1, e_stR2, e_stR3, e_sd1, e_keyD1, e_keyD2, e_keyTD, e_intsD, e_intsD0, e_borT, e_borT2, e_borK, e_borK2, e_argT, e_argT2, e_argK, e_argK2, e_nbT, e_nbK, e_putT, e_putK, e_gAt1, e_gAt2, e_gAt3, e_gAt4, e_gGetDK, e_gGetDT, e_gIxD, e_gInD, e_gNotInD, e_cGet1, e_cGet2, e_dk1, e_dk2, e_dk3, e_dk4, e_dt1, e_dt2, e_del, atI_zero, e_at1, e_at2, e_at3, e_at4, e_at5, e_at6, e_at7, e_at8, e_at9, e_atm, e_V, e_retV, e_unp, e_app, e_store, e_fzE, oS, rsO_some, Rs.bind_ok, Rs.bind_no, Rs.out_ok, Out.then_nx, Out.then_rt, Out.then_ct, Out.then_bk, fin_rt, fin_nx, List.getElem?_cons_zero, List.getElem?_cons_succ, List.set_cons_succ, List.set_cons_zero, List.length_cons, List.length_nil, Nat.reduceAdd, Nat.reduceLT, Nat.reduceLeDiff, Nat.reduceEqDiff, if_true, if_false, Bool.false_eq_true, Bool.not_true, Bool.not_false, and_self, true_and, and_true, List.map_cons, List.map_nil, Option.map_some, sh_int, sh_bool, sh_none, sh_tup, sh_lst, eqv_int, reduceIte, Option.bind_some, Option.bind_none, kitB_ll, kitB_lt, kitB_tt, kitB_tl, kitB_ii, tyD_list, tyD_int, Bool.true_and, Bool.false_and, Bool.and_true, Bool.and_false, Bool.or_true, Bool.true_or, Bool.false_or, Bool.or_false, Bool.and_self, Bool.or_self, e_cAK, List.append_nil, List.nil_append, List.cons_append, e_andB, e_orB, e_andR, e_orR, tyD_tuple, eqv_bool, eqv_none, tyD_bool, tyD_str, tyD_none, kitB_bb, kitB_nb, kitB_bi, kitB_ib, kitB_nl, kitB_nt, beq_self_eq_true, hr, h1, if_pos hz, e1]
/-! ### nothing is shared -/
def rowF (nm : Opd) (k : Nat) : Stp := ⟨opN (k % 3), nm, .c (40 + k)⟩
theorem stepIx_none {ss : List Stp} {op a b : Str} (h : ∀ s ∈ ss, s.r.str ≠ b) : stepIx ss op a b = none := by
  unfold stepIx
  rw [List.findIdx?_eq_none_iff]
  intro s hs
  exact decide_eq_false fun z => h s hs z.2.2
theorem fresh (names : List Opd) (n n2 c1 : Nat) (h1 : c1 ≤ 8) : ∀ k, k ≤ 8 → joinM names (rowsS n 3 c1) (rowsS n2 40 k) = (rowsS n 3 c1 ++ (List.range k).map (rowF (names.getD (n2 - 1) (.x 0))), (List.range k).map (c1 + ·))
  | 0, _ => by
    show (rowsS n 3 c1, []) = _
    rw [List.range_zero, List.map_nil, List.map_nil, List.append_nil]
  | k + 1, hk => by
    have ih := fresh names n n2 c1 h1 k (by omega)
    have e : rowsS n2 40 (k + 1) = rowsS n2 40 k ++ [rowS n2 40 k] := by
      unfold rowsS
      rw [List.range_succ, List.map_append]
      rfl
    rw [e, joinM_snoc, ih]
    have hn : stepIx (rowsS n 3 c1 ++ (List.range k).map (rowF (names.getD (n2 - 1) (.x 0)))) (opN (k % 3)).str (names.getD (n2 - 1) (.x 0)).str (numS (40 + k)) = none := by
      refine stepIx_none fun s hs => ?_
      rcases List.mem_append.mp hs with z | z
      · unfold rowsS at z
        obtain ⟨j, hj, rfl⟩ := List.mem_map.mp z
        have hj := List.mem_range.mp hj
        show numS (3 + j) ≠ numS (40 + k)
        intro q
        have := num_inj (n := 3 + j) (k := 40 + k) (by omega) (by omega) q
        omega
      · obtain ⟨j, hj, rfl⟩ := List.mem_map.mp z
        have hj := List.mem_range.mp hj
        show numS (40 + j) ≠ numS (40 + k)
        intro q
        have := num_inj (n := 40 + j) (k := 40 + k) (by omega) (by omega) q
        omega
    have hj : joinS names (rowsS n 3 c1 ++ (List.range k).map (rowF (names.getD (n2 - 1) (.x 0))), (List.range k).map (c1 + ·)) (rowS n2 40 k)
      = (match stepIx (rowsS n 3 c1 ++ (List.range k).map (rowF (names.getD (n2 - 1) (.x 0)))) (opN (k % 3)).str (names.getD (n2 - 1) (.x 0)).str (numS (40 + k)) with
        | some j => (rowsS n 3 c1 ++ (List.range k).map (rowF (names.getD (n2 - 1) (.x 0))), (List.range k).map (c1 + ·) ++ [j])
        | none => (rowsS n 3 c1 ++ (List.range k).map (rowF (names.getD (n2 - 1) (.x 0))) ++ [rowF (names.getD (n2 - 1) (.x 0)) k], (List.range k).map (c1 + ·) ++ [(rowsS n 3 c1 ++ (List.range k).map (rowF (names.getD (n2 - 1) (.x 0)))).length])) := rfl
    rw [hj, hn]
    simp only
    rw [List.range_succ, List.map_append, List.map_append, List.append_assoc, List.length_append, rows_len, List.length_map, List.length_range]
    rfl
theorem wrong_no {os : List Nat} : ∀ (ls : List (Option Nat)) (k : Nat), (∀ j, some j ∈ ls → j ∈ os) → wrongL os k ls = none
  | [], _, _ => rfl
  | none :: r, k, h => by
    show (if badl os none = true then some k else wrongL os (k + 1) r) = none
    rw [if_neg (fun z => by cases z)]
    exact wrong_no r (k + 1) fun j hj => h j (List.mem_cons_of_mem _ hj)
  | some i :: r, k, h => by
    have hi := h i List.mem_cons_self
    show (if badl os (some i) = true then some k else wrongL os (k + 1) r) = none
    rw [if_neg (by show ¬ (!decide (i ∈ os)) = true; rw [decide_eq_true hi]; decide)]
    exact wrong_no r (k + 1) fun j hj => h j (List.mem_cons_of_mem _ hj)
/-! ### a step put on and off again and again -/
theorem us_rows (n last count : Nat) (s : Int) : usAt (usP (rowsS n last count)) s = [] := by
  have key : ∀ u ∈ usP (rowsS n last count), u = [] := by
    intro u hu
    unfold usP rowsS at hu
    obtain ⟨s, hs, rfl⟩ := List.mem_map.mp hu
    obtain ⟨j, _, rfl⟩ := List.mem_map.mp hs
    unfold Stp.row
    rw [List.filter_eq_nil_iff.mpr]
    · rfl
    · intro k _ z
      cases z
  unfold usAt
  rw [List.getD_eq_getElem?_getD]
  cases h : (usP (rowsS n last count))[s.toNat]? with
  | none => rfl
  | some u => exact key u (List.mem_of_getElem? h)
theorem again_good (n last count d : Nat) (hd : d < count) : ∀ (k : Nat) (h : List Int), goodM (usP (rowsS n last count)) h (List.replicate k (d : Int))
  | 0, _ => trivial
  | k + 1, h => by
    rw [List.replicate_succ]
    refine ⟨⟨by omega, ?_, ?_⟩, again_good n last count d hd k _⟩
    · rw [show (usP (rowsS n last count)).length = count by unfold usP; rw [List.length_map, rows_len]]
      omega
    · unfold canM
      rw [us_rows]
      rfl
theorem again_end (d : Int) : ∀ k, endM [] (List.replicate (1 + 2 * k) d) = [d] := by
  have h1 : movM [] d = [d] := rfl
  have h2 : movM [d] d = [] := by
    unfold movM
    rw [if_pos (by simp)]
    simp
  intro k
  induction k with
  | zero => exact h1
  | succ k ih =>
    rw [show 1 + 2 * (k + 1) = (1 + 2 * k) + 1 + 1 by omega, List.replicate_succ, List.replicate_succ]
    show endM (movM (movM [] d) d) _ = _
    rw [h1, h2]
    exact ih
noncomputable def gl8 : VEnv → Rs RV := (cA gList (aC (cC (.int 8)) (aC (cC (.int 6)) (aC (cC (.int 8)) (aC (cC (.int 6)) (aC (cC (.int 3)) (aC (cC (.int 2)) (aC (cC (.int 65)) (aC (cC (.int 65)) aN)))))))))
theorem gl8_ok (env : VEnv) : gl8 env = .ok (.ol [.int 8, .int 6, .int 8, .int 6, .int 3, .int 2, .int 65, .int 65]) := rfl
noncomputable def L0_t2 : VEnv → Out :=
  (sSeq (sSet 10 (cA gList (aC (c2 gRep (cA gList (aC (c2 gIx (cV 2) (cC (.int 0))) aN)) (c2 gAdd (cC (.int 1)) (c2 gMul (cC (.int 2)) (c2 gIx (cV 2) (cC (.int 6)))))) (aC (c2 gRep (cA gList (aC (c2 gIx (cV 2) (cC (.int 2))) aN)) (c2 gAdd (cC (.int 1)) (c2 gMul (cC (.int 2)) (c2 gIx (cV 2) (cC (.int 7)))))) aN))))
    (sSeq (sSet 11 (c2 gAdd (c2 gIx (cV 10) (cC (.int 0))) (c2 gRep (cA gList (aC (c2 gAdd (cA gLen (aC (c2 gIx (cV 3) (cC (.int 2))) aN)) (c2 gIx (cV 2) (cC (.int 2)))) aN)) (cA gLen (aC (c2 gIx (cV 10) (cC (.int 1))) aN)))))
    (sSeq (sIf (bNot (cB (cV 6))) (sSet 11 (c2 gAdd (cV 11) (c2 gIx (cV 10) (cC (.int 0))))) sNil)
    (sSeq (sFz 11 (sSet 12 (cV 11)))
    (sSeq (sIf (cB (c2 gGt (cA gLen (aC (cV 11) aN)) (cC (.int 255)))) (sSet 12 (cA gTupl (aC (cC (.str "too many moves")) (aC (c1 gNeg (cC (.int 1))) aN)))) sNil)
    (sSeq (sIf (cB (c2 gIsNot (cV 8) (cC .none))) (sSet 12 (cV 8)) sNil)
    (sFz 10 (sFz 4 (sFz 3 (sIf (cB (c2 gNe (cA (fun rs => if rs.length = 6 then F__law_told (rs.map RV.arg) else .no) (aC (cC (.int 1)) (aC (cV 3) (aC (cV 4) (aC (cA gTupleC (aC (cV 5) aN)) (aC (cV 10) (aC (cV 6) aN))))))) (cV 12))) (sRet (cC (.bool false))) sNil))))))))))
noncomputable def L0_t1 : VEnv → Out :=
  (sSeq (sSet 6 (c2 gEq (c2 gIx (cV 2) (cC (.int 5))) (cC (.int 1))))
    (sSeq (sSet 7 (c2 gAdd (c2 gIx (cV 3) (cC (.int 1))) (cA gLen (aC (cLc (iAb (cV 5)) [13] (.nm 13) (cB (c2 gIs (cV 13) (cC .none))) (cV 13)) aN))))
    (sSeq (sSet 8 (cC .none))
    (sSeq (sIf (cB (c2 gGt (cV 7) (cC (.int 6)))) (sSet 8 (cA gTupl (aC (cC (.str "too many inputs")) (aC (c1 gNeg (cC (.int 1))) aN)))) (sIf (cB (c2 gGt (c2 gAdd (cA gLen (aC (c2 gIx (cV 3) (cC (.int 2))) aN)) (cA gLen (aC (c2 gIx (cV 4) (cC (.int 2))) aN))) (cC (.int 8)))) (sSet 8 (cA gTupl (aC (cC (.str "too many steps")) (aC (c1 gNeg (cC (.int 1))) aN)))) sNil))
    (sSeq (sFz 4 (sFz 3 (sSet 9 (cA (fun rs => if rs.length = 6 then F__law_told (rs.map RV.arg) else .no) (aC (cC (.int 0)) (aC (cV 3) (aC (cV 4) (aC (cA gTupleC (aC (cV 5) aN)) (aC (cA gList aN) (aC (cV 6) aN))))))))))
    (sSeq (sIf (cB (c2 gIsNot (cV 8) (cC .none))) (sIf (cB (c2 gNe (cV 9) (cV 8))) (sRet (cC (.bool false))) sNil) (sFz 7 (sIf (bOr (bNot (cB (c1 (gIsi "tuple") (cV 9)))) (bOr (cB (c2 gNe (cSl (cV 9) oN (oS (cC (.int 2)))) (cA gTupl (aC (cC (.int 97)) (aC (cV 7) aN))))) (cB (c2 gNe (cA gLen (aC (c2 gIx (cV 9) (cC (.int 2))) aN)) (c2 gAdd (cA gLen (aC (c2 gIx (cV 3) (cC (.int 2))) aN)) (cA gLen (aC (c2 gIx (cV 4) (cC (.int 2))) aN))))))) (sRet (cC (.bool false))) sNil)))
    L0_t2))))))
theorem L0_split : L0_law = (sSeq (sSet 2 (cA (fun rs => if rs.length = 3 then F__law_draw (rs.map RV.arg) else .no) (aC (cV 0) (aC (c2 gMul (cC (.int 3)) (cV 1)) (aC gl8 aN)))))
    (sSeq (sSet 3 (cA (fun rs => if rs.length = 3 then F__law_rows (rs.map RV.arg) else .no) (aC (c2 gAdd (cC (.int 1)) (c2 gIx (cV 2) (cC (.int 0)))) (aC (c2 gAdd (cC (.int 1)) (c2 gIx (cV 2) (cC (.int 1)))) (aC (cC (.int 3)) aN)))))
    (sSeq (sSet 4 (cA (fun rs => if rs.length = 3 then F__law_rows (rs.map RV.arg) else .no) (aC (c2 gAdd (cC (.int 1)) (c2 gIx (cV 2) (cC (.int 2)))) (aC (c2 gAdd (cC (.int 1)) (c2 gIx (cV 2) (cC (.int 3)))) (aC (cC (.int 40)) aN)))))
    (sSeq (sSet 5 (c2 gRep (cA gList (aC (cC .none) aN)) (c2 gIx (cV 4) (cC (.int 1)))))
    (sSeq (sIf (cB (c2 gEq (c2 gIx (cV 2) (cC (.int 4))) (cC (.int 0)))) (sStore 5 (cC (.int 0)) (c2 gIx (cV 2) (cC (.int 0)))) sNil)
    L0_t1))))) := rfl
/-! ### told -/
def flT (f : Option (Str × Int)) (D : PyData) : PyData := match f with | some (w, x) => .tuple [.str w, .int x] | none => D
theorem told_0 {P Q L : PyData} {e4 : RV} {keep : Bool} {f : Option (Str × Int)} {D : PyData} (h : F_joined [.d P, .d Q, .d L, .d (.bool keep)] = match f with | some (w, x) => .ex 3 [("place", .int x), ("what", .str w)] | none => .ok (.d D)) :
    F__law_told [.d (.int 0), .d P, .d Q, .d L, e4, .d (.bool keep)] = .ok (.d (flT f D)) := by
  show (B__law_told [some (.d (.int 0)), some (.d P), some (.d Q), some (.d L), some e4, some (.d (.bool keep)), none]).fin = _
  unfold B__law_told
  have z0 : decide ((0 : Int) = 0) = true := rfl
  cases f with
  | none =>
    rw [e_try_ok (o := .rt (.d D)) (by
      unfold Y0__law_told
      simp only [e_nil, e_seq, e_fz, e_bk, e_ct, e_ret, e_retN, e_drop, e_set, e_if, e_for, e_cC, e_c2, e_c1, e_cA, e_aN, e_aC, e_cB, e_asB, e_bNot, e_bAnd, e_bOr, e_vAnd, e_vOr, e_vNot, e_vIf, e_bYes, e_iL, e_iT, e_iLb, e_iR, e_gL1, e_gL2, e_gL3, e_gT, e_gLb1, e_gLb2, e_gLb3, e_gLb4, e_nb1, e_nb2, e_bor1, e_bor2, e_bor3, e_bor4, e_arg1, e_arg2, e_arg3, e_arg4, e_putd, e_puto, e_toD1, e_toD2, e_allD0, e_allD1, e_allD2, e_gTupl, e_gList, e_tgnm, e_tgtp, e_tg0, e_tg1, e_sq1, e_sq2, e_sq3, e_sq4, e_sq5, e_qv2, e_qv3, e_qv4, e_qv5, e_data1, e_data2, e_data3, e_okI, e_okB, e_i2, e_sub, e_mul, e_mod, e_div, e_pow, e_lt, e_le, e_gt, e_ge, e_neg, e_addI, e_addS, e_addT, e_addL1, e_addL2, e_addL3, e_addL4, e_addL5, e_addL6, e_addL7, e_addL8, e_addL9, e_eq, e_ne, e_in, e_notIn, e_inT, e_inT2, e_inL1, e_inL2, e_inL3, e_is, e_isNot, e_isN1, e_isN2, e_isN3, e_isN4, e_isN5, e_isN6, e_isN7, e_ixT, e_ixL, e_ixO, e_ixB, e_ixSc, e_lenT, e_lenL, e_lenO, e_lenB, e_lenSc, e_lenS, e_tupT, e_tupL, e_tupO, e_tupB, e_lisT, e_lisL, e_lisO, e_lisB, e_min2, e_max2, e_any, e_all, e_sum, e_sorted, e_rev, e_sl, e_oN, e_isi, e_lc, e_wipe0, e_wipe1, e_iA, e_iAb, e_gAq1, e_gAq2, e_gAq3, e_gAqb1, e_gAqb2, e_gAqb3, e_gAqb4, e_no, e_cCh, e_cChI, e_aug, e_decT, e_decF, e_cDispS, e_cDT, e_cDK, e_cDisp1, e_storeA, e_stR1, e_stR2, e_stR3, e_sd1, e_keyD1, e_keyD2, e_keyTD, e_intsD, e_intsD0, e_borT, e_borT2, e_borK, e_borK2, e_argT, e_argT2, e_argK, e_argK2, e_nbT, e_nbK, e_putT, e_putK, e_gAt1, e_gAt2, e_gAt3, e_gAt4, e_gGetDK, e_gGetDT, e_gIxD, e_gInD, e_gNotInD, e_cGet1, e_cGet2, e_dk1, e_dk2, e_dk3, e_dk4, e_dt1, e_dt2, e_del, atI_zero, e_at1, e_at2, e_at3, e_at4, e_at5, e_at6, e_at7, e_at8, e_at9, e_atm, e_V, e_retV, e_unp, e_app, e_store, e_fzE, oS, rsO_some, Rs.bind_ok, Rs.bind_no, Rs.out_ok, Out.then_nx, Out.then_rt, Out.then_ct, Out.then_bk, fin_rt, fin_nx, List.getElem?_cons_zero, List.getElem?_cons_succ, List.set_cons_succ, List.set_cons_zero, List.length_cons, List.length_nil, Nat.reduceAdd, Nat.reduceLT, Nat.reduceLeDiff, Nat.reduceEqDiff, if_true, if_false, Bool.false_eq_true, Bool.not_true, Bool.not_false, and_self, true_and, and_true, List.map_cons, List.map_nil, Option.map_some, sh_int, sh_bool, sh_none, sh_tup, sh_lst, eqv_int, reduceIte, Option.bind_some, Option.bind_none, kitB_ll, kitB_lt, kitB_tt, kitB_tl, kitB_ii, tyD_list, tyD_int, Bool.true_and, Bool.false_and, Bool.and_true, Bool.and_false, Bool.or_true, Bool.true_or, Bool.false_or, Bool.or_false, Bool.and_self, Bool.or_self, e_cAK, List.append_nil, List.nil_append, List.cons_append, e_andB, e_orB, e_andR, e_orR, tyD_tuple, eqv_bool, eqv_none, tyD_bool, tyD_str, tyD_none, kitB_bb, kitB_nb, kitB_bi, kitB_ib, kitB_nl, kitB_nt, beq_self_eq_true, h, z0]) (fun _ _ _ z => by cases z)]
    rfl
  | some wx =>
    obtain ⟨w, x⟩ := wx
    rw [e_try_ex (c := 3) (fl := [("place", .int x), ("what", .str w)]) (env' := [some (.d (.int 0)), some (.d P), some (.d Q), some (.d L), some e4, some (.d (.bool keep)), none]) (o := .rt (.d (.tuple [.str w, .int x]))) (by
      unfold Y0__law_told
      simp only [e_nil, e_seq, e_fz, e_bk, e_ct, e_ret, e_retN, e_drop, e_set, e_if, e_for, e_cC, e_c2, e_c1, e_cA, e_aN, e_aC, e_cB, e_asB, e_bNot, e_bAnd, e_bOr, e_vAnd, e_vOr, e_vNot, e_vIf, e_bYes, e_iL, e_iT, e_iLb, e_iR, e_gL1, e_gL2, e_gL3, e_gT, e_gLb1, e_gLb2, e_gLb3, e_gLb4, e_nb1, e_nb2, e_bor1, e_bor2, e_bor3, e_bor4, e_arg1, e_arg2, e_arg3, e_arg4, e_putd, e_puto, e_toD1, e_toD2, e_allD0, e_allD1, e_allD2, e_gTupl, e_gList, e_tgnm, e_tgtp, e_tg0, e_tg1, e_sq1, e_sq2, e_sq3, e_sq4, e_sq5, e_qv2, e_qv3, e_qv4, e_qv5, e_data1, e_data2, e_data3, e_okI, e_okB, e_i2, e_sub, e_mul, e_mod, e_div, e_pow, e_lt, e_le, e_gt, e_ge, e_neg, e_addI, e_addS, e_addT, e_addL1, e_addL2, e_addL3, e_addL4, e_addL5, e_addL6, e_addL7, e_addL8, e_addL9, e_eq, e_ne, e_in, e_notIn, e_inT, e_inT2, e_inL1, e_inL2, e_inL3, e_is, e_isNot, e_isN1, e_isN2, e_isN3, e_isN4, e_isN5, e_isN6, e_isN7, e_ixT, e_ixL, e_ixO, e_ixB, e_ixSc, e_lenT, e_lenL, e_lenO, e_lenB, e_lenSc, e_lenS, e_tupT, e_tupL, e_tupO, e_tupB, e_lisT, e_lisL, e_lisO, e_lisB, e_min2, e_max2, e_any, e_all, e_sum, e_sorted, e_rev, e_sl, e_oN, e_isi, e_lc, e_wipe0, e_wipe1, e_iA, e_iAb, e_gAq1, e_gAq2, e_gAq3, e_gAqb1, e_gAqb2, e_gAqb3, e_gAqb4, e_no, e_cCh, e_cChI, e_aug, e_decT, e_decF, e_cDispS, e_cDT, e_cDK, e_cDisp1, e_storeA, e_stR1, e_stR2, e_stR3, e_sd1, e_keyD1, e_keyD2, e_keyTD, e_intsD, e_intsD0, e_borT, e_borT2, e_borK, e_borK2, e_argT, e_argT2, e_argK, e_argK2, e_nbT, e_nbK, e_putT, e_putK, e_gAt1, e_gAt2, e_gAt3, e_gAt4, e_gGetDK, e_gGetDT, e_gIxD, e_gInD, e_gNotInD, e_cGet1, e_cGet2, e_dk1, e_dk2, e_dk3, e_dk4, e_dt1, e_dt2, e_del, atI_zero, e_at1, e_at2, e_at3, e_at4, e_at5, e_at6, e_at7, e_at8, e_at9, e_atm, e_V, e_retV, e_unp, e_app, e_store, e_fzE, oS, rsO_some, Rs.bind_ok, Rs.bind_no, Rs.out_ok, Out.then_nx, Out.then_rt, Out.then_ct, Out.then_bk, fin_rt, fin_nx, List.getElem?_cons_zero, List.getElem?_cons_succ, List.set_cons_succ, List.set_cons_zero, List.length_cons, List.length_nil, Nat.reduceAdd, Nat.reduceLT, Nat.reduceLeDiff, Nat.reduceEqDiff, if_true, if_false, Bool.false_eq_true, Bool.not_true, Bool.not_false, and_self, true_and, and_true, List.map_cons, List.map_nil, Option.map_some, sh_int, sh_bool, sh_none, sh_tup, sh_lst, eqv_int, reduceIte, Option.bind_some, Option.bind_none, kitB_ll, kitB_lt, kitB_tt, kitB_tl, kitB_ii, tyD_list, tyD_int, Bool.true_and, Bool.false_and, Bool.and_true, Bool.and_false, Bool.or_true, Bool.true_or, Bool.false_or, Bool.or_false, Bool.and_self, Bool.or_self, e_cAK, List.append_nil, List.nil_append, List.cons_append, e_andB, e_orB, e_andR, e_orR, tyD_tuple, eqv_bool, eqv_none, tyD_bool, tyD_str, tyD_none, kitB_bb, kitB_nb, kitB_bi, kitB_ib, kitB_nl, kitB_nt, beq_self_eq_true, h, z0, Rs.out_ex, Rs.bind_ex, Out.then_ex]) rfl (by show 6 < 7; decide) fun a dd => by
      have l1 : List.lookup ("what" : Str) [(("place" : Str), PyData.int x), (("what" : Str), PyData.str w)] = some (.str w) := rfl
      have l2 : List.lookup ("place" : Str) [(("place" : Str), PyData.int x), (("what" : Str), PyData.str w)] = some (.int x) := rfl
      have c1 : cs_what 3 = true := rfl
      have c2' : cs_place 3 = true := rfl
      have k1 : tk_JoinError 3 = some true := rfl
      have k2 : tk_PlanError 3 = some false := rfl
      have k3 : tk_CodeError 3 = some false := rfl
      unfold Z0__law_told
      simp only [e_nil, e_seq, e_fz, e_bk, e_ct, e_ret, e_retN, e_drop, e_set, e_if, e_for, e_cC, e_c2, e_c1, e_cA, e_aN, e_aC, e_cB, e_asB, e_bNot, e_bAnd, e_bOr, e_vAnd, e_vOr, e_vNot, e_vIf, e_bYes, e_iL, e_iT, e_iLb, e_iR, e_gL1, e_gL2, e_gL3, e_gT, e_gLb1, e_gLb2, e_gLb3, e_gLb4, e_nb1, e_nb2, e_bor1, e_bor2, e_bor3, e_bor4, e_arg1, e_arg2, e_arg3, e_arg4, e_putd, e_puto, e_toD1, e_toD2, e_allD0, e_allD1, e_allD2, e_gTupl, e_gList, e_tgnm, e_tgtp, e_tg0, e_tg1, e_sq1, e_sq2, e_sq3, e_sq4, e_sq5, e_qv2, e_qv3, e_qv4, e_qv5, e_data1, e_data2, e_data3, e_okI, e_okB, e_i2, e_sub, e_mul, e_mod, e_div, e_pow, e_lt, e_le, e_gt, e_ge, e_neg, e_addI, e_addS, e_addT, e_addL1, e_addL2, e_addL3, e_addL4, e_addL5, e_addL6, e_addL7, e_addL8, e_addL9, e_eq, e_ne, e_in, e_notIn, e_inT, e_inT2, e_inL1, e_inL2, e_inL3, e_is, e_isNot, e_isN1, e_isN2, e_isN3, e_isN4, e_isN5, e_isN6, e_isN7, e_ixT, e_ixL, e_ixO, e_ixB, e_ixSc, e_lenT, e_lenL, e_lenO, e_lenB, e_lenSc, e_lenS, e_tupT, e_tupL, e_tupO, e_tupB, e_lisT, e_lisL, e_lisO, e_lisB, e_min2, e_max2, e_any, e_all, e_sum, e_sorted, e_rev, e_sl, e_oN, e_isi, e_lc, e_wipe0, e_wipe1, e_iA, e_iAb, e_gAq1, e_gAq2, e_gAq3, e_gAqb1, e_gAqb2, e_gAqb3, e_gAqb4, e_no, e_cCh, e_cChI, e_aug, e_decT, e_decF, e_cDispS, e_cDT, e_cDK, e_cDisp1, e_storeA, e_stR1, e_stR2, e_stR3, e_sd1, e_keyD1, e_keyD2, e_keyTD, e_intsD, e_intsD0, e_borT, e_borT2, e_borK, e_borK2, e_argT, e_argT2, e_argK, e_argK2, e_nbT, e_nbK, e_putT, e_putK, e_gAt1, e_gAt2, e_gAt3, e_gAt4, e_gGetDK, e_gGetDT, e_gIxD, e_gInD, e_gNotInD, e_cGet1, e_cGet2, e_dk1, e_dk2, e_dk3, e_dk4, e_dt1, e_dt2, e_del, atI_zero, e_at1, e_at2, e_at3, e_at4, e_at5, e_at6, e_at7, e_at8, e_at9, e_atm, e_V, e_retV, e_unp, e_app, e_store, e_fzE, oS, rsO_some, Rs.bind_ok, Rs.bind_no, Rs.out_ok, Out.then_nx, Out.then_rt, Out.then_ct, Out.then_bk, fin_rt, fin_nx, List.getElem?_cons_zero, List.getElem?_cons_succ, List.set_cons_succ, List.set_cons_zero, List.length_cons, List.length_nil, Nat.reduceAdd, Nat.reduceLT, Nat.reduceLeDiff, Nat.reduceEqDiff, if_true, if_false, Bool.false_eq_true, Bool.not_true, Bool.not_false, and_self, true_and, and_true, List.map_cons, List.map_nil, Option.map_some, sh_int, sh_bool, sh_none, sh_tup, sh_lst, eqv_int, reduceIte, Option.bind_some, Option.bind_none, kitB_ll, kitB_lt, kitB_tt, kitB_tl, kitB_ii, tyD_list, tyD_int, Bool.true_and, Bool.false_and, Bool.and_true, Bool.and_false, Bool.or_true, Bool.true_or, Bool.false_or, Bool.or_false, Bool.and_self, Bool.or_self, e_cAK, List.append_nil, List.nil_append, List.cons_append, e_andB, e_orB, e_andR, e_orR, tyD_tuple, eqv_bool, eqv_none, tyD_bool, tyD_str, tyD_none, kitB_bb, kitB_nb, kitB_bi, kitB_ib, kitB_nl, kitB_nt, beq_self_eq_true, e_xf, e_isE, l1, l2, c1, c2', k1, k2, k3, e_clr4]]
    rfl
theorem told_1 {P Q L : PyData} {p q : List Int} {keep : Bool} {r : Rs RV} (h : F_joined_plan [.d P, .d Q, .d L, .d (.list (p.map .int)), .d (.list (q.map .int)), .d (.bool keep)] = r) :
    (∀ xs, r = .ok (.ol xs) → F__law_told [.d (.int 1), .d P, .d Q, .d L, .d (.list [.list (p.map .int), .list (q.map .int)]), .d (.bool keep)] = .ok (.ol xs))
    ∧ (∀ w x, r = .ex 3 [("place", .int x), ("what", .str w)] → F__law_told [.d (.int 1), .d P, .d Q, .d L, .d (.list [.list (p.map .int), .list (q.map .int)]), .d (.bool keep)] = .ok (.d (.tuple [.str w, .int x]))) := by
  have z0 : decide ((1 : Int) = 0) = false := rfl
  have i0 : atI [PyData.list (p.map .int), .list (q.map .int)] 0 = some (.list (p.map .int)) := rfl
  have i1 : atI [PyData.list (p.map .int), .list (q.map .int)] 1 = some (.list (q.map .int)) := rfl
  refine ⟨fun xs hr => ?_, fun w x hr => ?_⟩
  · subst hr
    show (B__law_told [some (.d (.int 1)), some (.d P), some (.d Q), some (.d L), some (.d (.list [.list (p.map .int), .list (q.map .int)])), some (.d (.bool keep)), none]).fin = _
    unfold B__law_told
    rw [e_try_ok (o := .rt (.ol xs)) (by
      unfold Y0__law_told
      generalize p.map PyData.int = P1 at *
      generalize q.map PyData.int = Q1 at *
      simp only [e_nil, e_seq, e_fz, e_bk, e_ct, e_ret, e_retN, e_drop, e_set, e_if, e_for, e_cC, e_c2, e_c1, e_cA, e_aN, e_aC, e_cB, e_asB, e_bNot, e_bAnd, e_bOr, e_vAnd, e_vOr, e_vNot, e_vIf, e_bYes, e_iL, e_iT, e_iLb, e_iR, e_gL1, e_gL2, e_gL3, e_gT, e_gLb1, e_gLb2, e_gLb3, e_gLb4, e_nb1, e_nb2, e_bor1, e_bor2, e_bor3, e_bor4, e_arg1, e_arg2, e_arg3, e_arg4, e_putd, e_puto, e_toD1, e_toD2, e_allD0, e_allD1, e_allD2, e_gTupl, e_gList, e_tgnm, e_tgtp, e_tg0, e_tg1, e_sq1, e_sq2, e_sq3, e_sq4, e_sq5, e_qv2, e_qv3, e_qv4, e_qv5, e_data1, e_data2, e_data3, e_okI, e_okB, e_i2, e_sub, e_mul, e_mod, e_div, e_pow, e_lt, e_le, e_gt, e_ge, e_neg, e_addI, e_addS, e_addT, e_addL1, e_addL2, e_addL3, e_addL4, e_addL5, e_addL6, e_addL7, e_addL8, e_addL9, e_eq, e_ne, e_in, e_notIn, e_inT, e_inT2, e_inL1, e_inL2, e_inL3, e_is, e_isNot, e_isN1, e_isN2, e_isN3, e_isN4, e_isN5, e_isN6, e_isN7, e_ixT, e_ixL, e_ixO, e_ixB, e_ixSc, e_lenT, e_lenL, e_lenO, e_lenB, e_lenSc, e_lenS, e_tupT, e_tupL, e_tupO, e_tupB, e_lisT, e_lisL, e_lisO, e_lisB, e_min2, e_max2, e_any, e_all, e_sum, e_sorted, e_rev, e_sl, e_oN, e_isi, e_lc, e_wipe0, e_wipe1, e_iA, e_iAb, e_gAq1, e_gAq2, e_gAq3, e_gAqb1, e_gAqb2, e_gAqb3, e_gAqb4, e_no, e_cCh, e_cChI, e_aug, e_decT, e_decF, e_cDispS, e_cDT, e_cDK, e_cDisp1, e_storeA, e_stR1, e_stR2, e_stR3, e_sd1, e_keyD1, e_keyD2, e_keyTD, e_intsD, e_intsD0, e_borT, e_borT2, e_borK, e_borK2, e_argT, e_argT2, e_argK, e_argK2, e_nbT, e_nbK, e_putT, e_putK, e_gAt1, e_gAt2, e_gAt3, e_gAt4, e_gGetDK, e_gGetDT, e_gIxD, e_gInD, e_gNotInD, e_cGet1, e_cGet2, e_dk1, e_dk2, e_dk3, e_dk4, e_dt1, e_dt2, e_del, atI_zero, e_at1, e_at2, e_at3, e_at4, e_at5, e_at6, e_at7, e_at8, e_at9, e_atm, e_V, e_retV, e_unp, e_app, e_store, e_fzE, oS, rsO_some, Rs.bind_ok, Rs.bind_no, Rs.out_ok, Out.then_nx, Out.then_rt, Out.then_ct, Out.then_bk, fin_rt, fin_nx, List.getElem?_cons_zero, List.getElem?_cons_succ, List.set_cons_succ, List.set_cons_zero, List.length_cons, List.length_nil, Nat.reduceAdd, Nat.reduceLT, Nat.reduceLeDiff, Nat.reduceEqDiff, if_true, if_false, Bool.false_eq_true, Bool.not_true, Bool.not_false, and_self, true_and, and_true, List.map_cons, List.map_nil, Option.map_some, sh_int, sh_bool, sh_none, sh_tup, sh_lst, eqv_int, reduceIte, Option.bind_some, Option.bind_none, kitB_ll, kitB_lt, kitB_tt, kitB_tl, kitB_ii, tyD_list, tyD_int, Bool.true_and, Bool.false_and, Bool.and_true, Bool.and_false, Bool.or_true, Bool.true_or, Bool.false_or, Bool.or_false, Bool.and_self, Bool.or_self, e_cAK, List.append_nil, List.nil_append, List.cons_append, e_andB, e_orB, e_andR, e_orR, tyD_tuple, eqv_bool, eqv_none, tyD_bool, tyD_str, tyD_none, kitB_bb, kitB_nb, kitB_bi, kitB_ib, kitB_nl, kitB_nt, beq_self_eq_true, h, z0, i0, i1]) (fun _ _ _ z => by cases z)]
    rfl
  · subst hr
    show (B__law_told [some (.d (.int 1)), some (.d P), some (.d Q), some (.d L), some (.d (.list [.list (p.map .int), .list (q.map .int)])), some (.d (.bool keep)), none]).fin = _
    unfold B__law_told
    rw [e_try_ex (c := 3) (fl := [("place", .int x), ("what", .str w)]) (env' := [some (.d (.int 1)), some (.d P), some (.d Q), some (.d L), some (.d (.list [.list (p.map .int), .list (q.map .int)])), some (.d (.bool keep)), none]) (o := .rt (.d (.tuple [.str w, .int x]))) (by
      unfold Y0__law_told
      generalize p.map PyData.int = P1 at *
      generalize q.map PyData.int = Q1 at *
      simp only [e_nil, e_seq, e_fz, e_bk, e_ct, e_ret, e_retN, e_drop, e_set, e_if, e_for, e_cC, e_c2, e_c1, e_cA, e_aN, e_aC, e_cB, e_asB, e_bNot, e_bAnd, e_bOr, e_vAnd, e_vOr, e_vNot, e_vIf, e_bYes, e_iL, e_iT, e_iLb, e_iR, e_gL1, e_gL2, e_gL3, e_gT, e_gLb1, e_gLb2, e_gLb3, e_gLb4, e_nb1, e_nb2, e_bor1, e_bor2, e_bor3, e_bor4, e_arg1, e_arg2, e_arg3, e_arg4, e_putd, e_puto, e_toD1, e_toD2, e_allD0, e_allD1, e_allD2, e_gTupl, e_gList, e_tgnm, e_tgtp, e_tg0, e_tg1, e_sq1, e_sq2, e_sq3, e_sq4, e_sq5, e_qv2, e_qv3, e_qv4, e_qv5, e_data1, e_data2, e_data3, e_okI, e_okB, e_i2, e_sub, e_mul, e_mod, e_div, e_pow, e_lt, e_le, e_gt, e_ge, e_neg, e_addI, e_addS, e_addT, e_addL1, e_addL2, e_addL3, e_addL4, e_addL5, e_addL6, e_addL7, e_addL8, e_addL9, e_eq, e_ne, e_in, e_notIn, e_inT, e_inT2, e_inL1, e_inL2, e_inL3, e_is, e_isNot, e_isN1, e_isN2, e_isN3, e_isN4, e_isN5, e_isN6, e_isN7, e_ixT, e_ixL, e_ixO, e_ixB, e_ixSc, e_lenT, e_lenL, e_lenO, e_lenB, e_lenSc, e_lenS, e_tupT, e_tupL, e_tupO, e_tupB, e_lisT, e_lisL, e_lisO, e_lisB, e_min2, e_max2, e_any, e_all, e_sum, e_sorted, e_rev, e_sl, e_oN, e_isi, e_lc, e_wipe0, e_wipe1, e_iA, e_iAb, e_gAq1, e_gAq2, e_gAq3, e_gAqb1, e_gAqb2, e_gAqb3, e_gAqb4, e_no, e_cCh, e_cChI, e_aug, e_decT, e_decF, e_cDispS, e_cDT, e_cDK, e_cDisp1, e_storeA, e_stR1, e_stR2, e_stR3, e_sd1, e_keyD1, e_keyD2, e_keyTD, e_intsD, e_intsD0, e_borT, e_borT2, e_borK, e_borK2, e_argT, e_argT2, e_argK, e_argK2, e_nbT, e_nbK, e_putT, e_putK, e_gAt1, e_gAt2, e_gAt3, e_gAt4, e_gGetDK, e_gGetDT, e_gIxD, e_gInD, e_gNotInD, e_cGet1, e_cGet2, e_dk1, e_dk2, e_dk3, e_dk4, e_dt1, e_dt2, e_del, atI_zero, e_at1, e_at2, e_at3, e_at4, e_at5, e_at6, e_at7, e_at8, e_at9, e_atm, e_V, e_retV, e_unp, e_app, e_store, e_fzE, oS, rsO_some, Rs.bind_ok, Rs.bind_no, Rs.out_ok, Out.then_nx, Out.then_rt, Out.then_ct, Out.then_bk, fin_rt, fin_nx, List.getElem?_cons_zero, List.getElem?_cons_succ, List.set_cons_succ, List.set_cons_zero, List.length_cons, List.length_nil, Nat.reduceAdd, Nat.reduceLT, Nat.reduceLeDiff, Nat.reduceEqDiff, if_true, if_false, Bool.false_eq_true, Bool.not_true, Bool.not_false, and_self, true_and, and_true, List.map_cons, List.map_nil, Option.map_some, sh_int, sh_bool, sh_none, sh_tup, sh_lst, eqv_int, reduceIte, Option.bind_some, Option.bind_none, kitB_ll, kitB_lt, kitB_tt, kitB_tl, kitB_ii, tyD_list, tyD_int, Bool.true_and, Bool.false_and, Bool.and_true, Bool.and_false, Bool.or_true, Bool.true_or, Bool.false_or, Bool.or_false, Bool.and_self, Bool.or_self, e_cAK, List.append_nil, List.nil_append, List.cons_append, e_andB, e_orB, e_andR, e_orR, tyD_tuple, eqv_bool, eqv_none, tyD_bool, tyD_str, tyD_none, kitB_bb, kitB_nb, kitB_bi, kitB_ib, kitB_nl, kitB_nt, beq_self_eq_true, h, z0, i0, i1, Rs.out_ex, Rs.bind_ex, Out.then_ex]) rfl (by show 6 < 7; decide) fun a dd => by
      have l1 : List.lookup ("what" : Str) [(("place" : Str), PyData.int x), (("what" : Str), PyData.str w)] = some (.str w) := rfl
      have l2 : List.lookup ("place" : Str) [(("place" : Str), PyData.int x), (("what" : Str), PyData.str w)] = some (.int x) := rfl
      have c1 : cs_what 3 = true := rfl
      have c2' : cs_place 3 = true := rfl
      have k1 : tk_JoinError 3 = some true := rfl
      have k2 : tk_PlanError 3 = some false := rfl
      have k3 : tk_CodeError 3 = some false := rfl
      unfold Z0__law_told
      simp only [e_nil, e_seq, e_fz, e_bk, e_ct, e_ret, e_retN, e_drop, e_set, e_if, e_for, e_cC, e_c2, e_c1, e_cA, e_aN, e_aC, e_cB, e_asB, e_bNot, e_bAnd, e_bOr, e_vAnd, e_vOr, e_vNot, e_vIf, e_bYes, e_iL, e_iT, e_iLb, e_iR, e_gL1, e_gL2, e_gL3, e_gT, e_gLb1, e_gLb2, e_gLb3, e_gLb4, e_nb1, e_nb2, e_bor1, e_bor2, e_bor3, e_bor4, e_arg1, e_arg2, e_arg3, e_arg4, e_putd, e_puto, e_toD1, e_toD2, e_allD0, e_allD1, e_allD2, e_gTupl, e_gList, e_tgnm, e_tgtp, e_tg0, e_tg1, e_sq1, e_sq2, e_sq3, e_sq4, e_sq5, e_qv2, e_qv3, e_qv4, e_qv5, e_data1, e_data2, e_data3, e_okI, e_okB, e_i2, e_sub, e_mul, e_mod, e_div, e_pow, e_lt, e_le, e_gt, e_ge, e_neg, e_addI, e_addS, e_addT, e_addL1, e_addL2, e_addL3, e_addL4, e_addL5, e_addL6, e_addL7, e_addL8, e_addL9, e_eq, e_ne, e_in, e_notIn, e_inT, e_inT2, e_inL1, e_inL2, e_inL3, e_is, e_isNot, e_isN1, e_isN2, e_isN3, e_isN4, e_isN5, e_isN6, e_isN7, e_ixT, e_ixL, e_ixO, e_ixB, e_ixSc, e_lenT, e_lenL, e_lenO, e_lenB, e_lenSc, e_lenS, e_tupT, e_tupL, e_tupO, e_tupB, e_lisT, e_lisL, e_lisO, e_lisB, e_min2, e_max2, e_any, e_all, e_sum, e_sorted, e_rev, e_sl, e_oN, e_isi, e_lc, e_wipe0, e_wipe1, e_iA, e_iAb, e_gAq1, e_gAq2, e_gAq3, e_gAqb1, e_gAqb2, e_gAqb3, e_gAqb4, e_no, e_cCh, e_cChI, e_aug, e_decT, e_decF, e_cDispS, e_cDT, e_cDK, e_cDisp1, e_storeA, e_stR1, e_stR2, e_stR3, e_sd1, e_keyD1, e_keyD2, e_keyTD, e_intsD, e_intsD0, e_borT, e_borT2, e_borK, e_borK2, e_argT, e_argT2, e_argK, e_argK2, e_nbT, e_nbK, e_putT, e_putK, e_gAt1, e_gAt2, e_gAt3, e_gAt4, e_gGetDK, e_gGetDT, e_gIxD, e_gInD, e_gNotInD, e_cGet1, e_cGet2, e_dk1, e_dk2, e_dk3, e_dk4, e_dt1, e_dt2, e_del, atI_zero, e_at1, e_at2, e_at3, e_at4, e_at5, e_at6, e_at7, e_at8, e_at9, e_atm, e_V, e_retV, e_unp, e_app, e_store, e_fzE, oS, rsO_some, Rs.bind_ok, Rs.bind_no, Rs.out_ok, Out.then_nx, Out.then_rt, Out.then_ct, Out.then_bk, fin_rt, fin_nx, List.getElem?_cons_zero, List.getElem?_cons_succ, List.set_cons_succ, List.set_cons_zero, List.length_cons, List.length_nil, Nat.reduceAdd, Nat.reduceLT, Nat.reduceLeDiff, Nat.reduceEqDiff, if_true, if_false, Bool.false_eq_true, Bool.not_true, Bool.not_false, and_self, true_and, and_true, List.map_cons, List.map_nil, Option.map_some, sh_int, sh_bool, sh_none, sh_tup, sh_lst, eqv_int, reduceIte, Option.bind_some, Option.bind_none, kitB_ll, kitB_lt, kitB_tt, kitB_tl, kitB_ii, tyD_list, tyD_int, Bool.true_and, Bool.false_and, Bool.and_true, Bool.and_false, Bool.or_true, Bool.true_or, Bool.false_or, Bool.or_false, Bool.and_self, Bool.or_self, e_cAK, List.append_nil, List.nil_append, List.cons_append, e_andB, e_orB, e_andR, e_orR, tyD_tuple, eqv_bool, eqv_none, tyD_bool, tyD_str, tyD_none, kitB_bb, kitB_nb, kitB_bi, kitB_ib, kitB_nl, kitB_nt, beq_self_eq_true, e_xf, e_isE, l1, l2, c1, c2', k1, k2, k3, e_clr4]]
    rfl
theorem repl_none (k : Nat) : (List.replicate k [PyData.none]).flatten = (List.replicate k (none : Option Nat)).map lkD := by
  induction k with
  | zero => rfl
  | succ k ih => rw [List.replicate_succ, List.flatten_cons, ih, List.replicate_succ, List.map_cons]; rfl
theorem repl_int (d : Int) (k : Nat) : (List.replicate k [PyData.int d]).flatten = (List.replicate k d).map .int := by
  induction k with
  | zero => rfl
  | succ k ih => rw [List.replicate_succ, List.flatten_cons, ih, List.replicate_succ, List.map_cons]; rfl
theorem rep_int (d : Int) (k : Nat) (h : k ≤ 1000) : gRep (.ol [.int d]) (.d (.int (k : Int))) = .ok (.ol ((List.replicate k d).map .int)) := by
  rw [e_rep rfl (by omega) (by simp; omega), show ((k : Nat) : Int).toNat = k by omega, repl_int]
theorem fault_nice {w : Str} (hw : PyData.strOk w = true) (x : Int) : Nice 1 (.tuple [.str w, .int x]) := Nice.tup fun d hd => by
  rcases List.mem_cons.mp hd with rfl | hd
  · exact Nice.str 0 hw
  · rw [List.mem_singleton.mp hd]; exact Nice.int 0 _
theorem lc_none (ls : List (Option Nat)) (e0 e1 e2 e3 e4 e5 e6 e7 e8 e9 e10 e11 e12 : Option RV) : lcF (.nm 13) (cB (c2 gIs (cV 13) (cC .none))) (cV 13) [e0, e1, e2, e3, e4, e5, e6, e7, e8, e9, e10, e11, e12, none] (ls.map lkD) = .ok ((ls.filter fun l => l.isNone).map lkD) := by
  refine lcF_map lkD (fun l => l.isNone) lkD ls fun l hl => ⟨_, rfl, ?_, fun _ => ⟨.d (lkD l), rfl, rfl⟩⟩
  cases l with
  | none => rfl
  | some k => rfl
theorem wtmi_ok : PyData.strOk "too many inputs" = true := by decide +kernel
theorem wtms_ok : PyData.strOk "too many steps" = true := by decide +kernel
theorem wtmm_ok : PyData.strOk "too many moves" = true := by decide +kernel
def flR (f : Option (Str × Int)) (r : Rs RV) : Rs RV := match f with | some (w, x) => .ok (.d (.tuple [.str w, .int x])) | none => r
theorem t1_ok {P1 P2 : PyData} {n c1 c2 d5 M : Nat} {DL S1 S2 SD : List PyData} {OM : PyData} (ls : List (Option Nat)) (keep : Bool) (f : Option (Str × Int)) (hls : ls.length ≤ 100) (hM : M = n + noneC ls)
    (hf : f = if 6 < M then some (("too many inputs" : Str), (-1 : Int)) else if 8 < c1 + c2 then some (("too many steps" : Str), (-1 : Int)) else none)
    (a5 : atI DL 5 = some (.int (d5 : Int))) (hk : decide ((d5 : Int) = 1) = keep) (h1 : gIx (.d P1) (.d (.int 1)) = .ok (.d (.int (n : Int)))) (h2 : gIx (.d P1) (.d (.int 2)) = .ok (.d (.tuple S1))) (h2' : gIx (.d P2) (.d (.int 2)) = .ok (.d (.tuple S2))) (l1 : S1.length = c1) (l2 : S2.length = c2) (l3 : SD.length = c1 + c2)
    (p0 : F__law_told [.d (.int 0), .d P1, .d P2, .d (.tuple (ls.map lkD)), .d (.list []), .d (.bool keep)] = .ok (.d (flT f (.tuple [.int 97, .int (M : Int), .tuple SD, OM])))) (e0 e1 e6 e7 e8 e9 e10 e11 e12 : Option RV) :
    L0_t1 [e0, e1, some (.ol DL), some (.d P1), some (.d P2), some (.ol (ls.map lkD)), e6, e7, e8, e9, e10, e11, e12, none]
      = L0_t2 [e0, e1, some (.ol DL), some (.d P1), some (.d P2), some (.ol (ls.map lkD)), some (.d (.bool keep)), some (.d (.int (M : Int))), some (.d (fltD f)), some (.d (flT f (.tuple [.int 97, .int (M : Int), .tuple SD, OM]))), e10, e11, e12, none] := by
  have lcn := fun e0 e1 e2 e3 e4 e5 e6 e7 e8 e9 e10 e11 e12 => lc_none ls e0 e1 e2 e3 e4 e5 e6 e7 e8 e9 e10 e11 e12
  have z1 : (ls.map lkD).length ≤ 1000000 := by rw [List.length_map]; omega
  have hN : ((ls.filter fun l => l.isNone).map lkD).length = noneC ls := by rw [List.length_map]; rfl
  have hM' : (n : Int) + (noneC ls : Int) = (M : Int) := by omega
  have g1 : gLen [.d (.tuple S1)] = .ok (.d (.int (c1 : Int))) := by rw [e_lenT, l1]
  have g2 : gLen [.d (.tuple S2)] = .ok (.d (.int (c2 : Int))) := by rw [e_lenT, l2]
  have g3 : gLen [.d (.tuple SD)] = .ok (.d (.int (c1 + c2 : Int))) := by rw [e_lenT, l3]; rfl
  have nL : noneC ls ≤ 1000000 := by
    have := List.length_filter_le (fun l : Option Nat => l.isNone) ls
    show (ls.filter fun l => l.isNone).length ≤ _
    omega
  generalize hX : L0_t1 _ = X
  unfold L0_t1 at hX
  generalize (ls.filter fun l => l.isNone).map lkD = NL at *
  generalize ls.map lkD = LL at *
  by_cases b1 : 6 < M
  · rw [if_pos b1] at hf
    subst hf
    have d1 : decide ((M : Int) > 6) = true := decide_eq_true (by omega)
    have nn := fault_nice wtmi_ok (-1)
    have s1 : SeqAt.shaped (.tuple [.str "too many inputs", .int (-1)]) = true := nn.shaped (by decide)
    have s2 : PyData.eqv (.tuple [.str "too many inputs", .int (-1)]) (.tuple [.str "too many inputs", .int (-1)]) = true := nn.refl
    have p0 : F__law_told _ = .ok (.d (.tuple [.str "too many inputs", .int (-1)])) := p0
    show X = L0_t2 [e0, e1, some (.ol DL), some (.d P1), some (.d P2), some (.ol LL), some (.d (.bool keep)), some (.d (.int (M : Int))), some (.d (.tuple [.str "too many inputs", .int (-1)])), some (.d (.tuple [.str "too many inputs", .int (-1)])), e10, e11, e12, none]
    generalize hE : PyData.tuple [.str "too many inputs", .int (-1)] = E at *
    have isn : isNone (.d E) = false := by rw [← hE]; rfl
    simp only [e_nil, e_seq, e_fz, e_bk, e_ct, e_ret, e_retN, e_drop, e_set, e_if, e_for, e_cC, e_c2, e_c1, e_cA, e_aN, e_aC, e_cB, e_asB, e_bNot, e_bAnd, e_bOr, e_vAnd, e_vOr, e_vNot, e_vIf, e_bYes, e_iL, e_iT, e_iLb, e_iR, e_gL1, e_gL2, e_gL3, e_gT, e_gLb1, e_gLb2, e_gLb3, e_gLb4, e_nb1, e_nb2, e_bor1, e_bor2, e_bor3, e_bor4, e_arg1, e_arg2, e_arg3, e_arg4, e_putd, e_puto, e_toD1, e_toD2, e_allD0, e_allD1, e_allD2, e_gTupl, e_gList, e_tgnm, e_tgtp, e_tg0, e_tg1, e_sq1, e_sq2, e_sq3, e_sq4, e_sq5, e_qv2, e_qv3, e_qv4, e_qv5, e_data1, e_data2, e_data3, e_okI, e_okB, e_i2, e_sub, e_mul, e_mod, e_div, e_pow, e_lt, e_le, e_gt, e_ge, e_neg, e_addI, e_addS, e_addT, e_addL1, e_addL2, e_addL3, e_addL4, e_addL5, e_addL6, e_addL7, e_addL8, e_addL9, e_eq, e_ne, e_in, e_notIn, e_inT, e_inT2, e_inL1, e_inL2, e_inL3, e_is, e_isNot, e_isN1, e_isN2, e_isN3, e_isN4, e_isN5, e_isN6, e_isN7, e_ixT, e_ixL, e_ixO, e_ixB, e_ixSc, e_lenT, e_lenL, e_lenO, e_lenB, e_lenSc, e_lenS, e_tupT, e_tupL, e_tupO, e_tupB, e_lisT, e_lisL, e_lisO, e_lisB, e_min2, e_max2, e_any, e_all, e_sum, e_sorted, e_rev, e_sl, e_oN, e_isi, e_lc, e_wipe0, e_wipe1, e_iA, e_iAb, e_gAq1, e_gAq2, e_gAq3, e_gAqb1, e_gAqb2, e_gAqb3, e_gAqb4, e_no, e_cCh, e_cChI, e_aug, e_decT, e_decF, e_cDispS, e_cDT, e_cDK, e_cDisp1, e_storeA, e_stR1, e_stR2, e_stR3, e_sd1, e_keyD1, e_keyD2, e_keyTD, e_intsD, e_intsD0, e_borT, e_borT2, e_borK, e_borK2, e_argT, e_argT2, e_argK, e_argK2, e_nbT, e_nbK, e_putT, e_putK, e_gAt1, e_gAt2, e_gAt3, e_gAt4, e_gGetDK, e_gGetDT, e_gIxD, e_gInD, e_gNotInD, e_cGet1, e_cGet2, e_dk1, e_dk2, e_dk3, e_dk4, e_dt1, e_dt2, e_del, atI_zero, e_at1, e_at2, e_at3, e_at4, e_at5, e_at6, e_at7, e_at8, e_at9, e_atm, e_V, e_retV, e_unp, e_app, e_store, e_fzE, oS, rsO_some, Rs.bind_ok, Rs.bind_no, Rs.out_ok, Out.then_nx, Out.then_rt, Out.then_ct, Out.then_bk, fin_rt, fin_nx, List.getElem?_cons_zero, List.getElem?_cons_succ, List.set_cons_succ, List.set_cons_zero, List.length_cons, List.length_nil, Nat.reduceAdd, Nat.reduceLT, Nat.reduceLeDiff, Nat.reduceEqDiff, if_true, if_false, Bool.false_eq_true, Bool.not_true, Bool.not_false, and_self, true_and, and_true, List.map_cons, List.map_nil, Option.map_some, sh_int, sh_bool, sh_none, sh_tup, sh_lst, eqv_int, reduceIte, Option.bind_some, Option.bind_none, kitB_ll, kitB_lt, kitB_tt, kitB_tl, kitB_ii, tyD_list, tyD_int, Bool.true_and, Bool.false_and, Bool.and_true, Bool.and_false, Bool.or_true, Bool.true_or, Bool.false_or, Bool.or_false, Bool.and_self, Bool.or_self, e_cAK, List.append_nil, List.nil_append, List.cons_append, e_andB, e_orB, e_andR, e_orR, tyD_tuple, eqv_bool, eqv_none, tyD_bool, tyD_str, tyD_none, kitB_bb, kitB_nb, kitB_bi, kitB_ib, kitB_nl, kitB_nt, beq_self_eq_true, a5, hk, h1, if_pos z1, lcn, hN, if_pos nL, hM', d1, hE, p0, isn, s1, s2] at hX
    exact hX.symm
  · rw [if_neg b1] at hf
    have d1 : decide ((M : Int) > 6) = false := decide_eq_false (by omega)
    by_cases b2 : 8 < c1 + c2
    · rw [if_pos b2] at hf
      subst hf
      have d2 : decide ((c1 : Int) + (c2 : Int) > 8) = true := decide_eq_true (by omega)
      have nn := fault_nice wtms_ok (-1)
      have s1 : SeqAt.shaped (.tuple [.str "too many steps", .int (-1)]) = true := nn.shaped (by decide)
      have s2 : PyData.eqv (.tuple [.str "too many steps", .int (-1)]) (.tuple [.str "too many steps", .int (-1)]) = true := nn.refl
      have p0 : F__law_told _ = .ok (.d (.tuple [.str "too many steps", .int (-1)])) := p0
      show X = L0_t2 [e0, e1, some (.ol DL), some (.d P1), some (.d P2), some (.ol LL), some (.d (.bool keep)), some (.d (.int (M : Int))), some (.d (.tuple [.str "too many steps", .int (-1)])), some (.d (.tuple [.str "too many steps", .int (-1)])), e10, e11, e12, none]
      generalize hE : PyData.tuple [.str "too many steps", .int (-1)] = E at *
      have isn : isNone (.d E) = false := by rw [← hE]; rfl
      simp only [e_nil, e_seq, e_fz, e_bk, e_ct, e_ret, e_retN, e_drop, e_set, e_if, e_for, e_cC, e_c2, e_c1, e_cA, e_aN, e_aC, e_cB, e_asB, e_bNot, e_bAnd, e_bOr, e_vAnd, e_vOr, e_vNot, e_vIf, e_bYes, e_iL, e_iT, e_iLb, e_iR, e_gL1, e_gL2, e_gL3, e_gT, e_gLb1, e_gLb2, e_gLb3, e_gLb4, e_nb1, e_nb2, e_bor1, e_bor2, e_bor3, e_bor4, e_arg1, e_arg2, e_arg3, e_arg4, e_putd, e_puto, e_toD1, e_toD2, e_allD0, e_allD1, e_allD2, e_gTupl, e_gList, e_tgnm, e_tgtp, e_tg0, e_tg1, e_sq1, e_sq2, e_sq3, e_sq4, e_sq5, e_qv2, e_qv3, e_qv4, e_qv5, e_data1, e_data2, e_data3, e_okI, e_okB, e_i2, e_sub, e_mul, e_mod, e_div, e_pow, e_lt, e_le, e_gt, e_ge, e_neg, e_addI, e_addS, e_addT, e_addL1, e_addL2, e_addL3, e_addL4, e_addL5, e_addL6, e_addL7, e_addL8, e_addL9, e_eq, e_ne, e_in, e_notIn, e_inT, e_inT2, e_inL1, e_inL2, e_inL3, e_is, e_isNot, e_isN1, e_isN2, e_isN3, e_isN4, e_isN5, e_isN6, e_isN7, e_ixT, e_ixL, e_ixO, e_ixB, e_ixSc, e_lenT, e_lenL, e_lenO, e_lenB, e_lenSc, e_lenS, e_tupT, e_tupL, e_tupO, e_tupB, e_lisT, e_lisL, e_lisO, e_lisB, e_min2, e_max2, e_any, e_all, e_sum, e_sorted, e_rev, e_sl, e_oN, e_isi, e_lc, e_wipe0, e_wipe1, e_iA, e_iAb, e_gAq1, e_gAq2, e_gAq3, e_gAqb1, e_gAqb2, e_gAqb3, e_gAqb4, e_no, e_cCh, e_cChI, e_aug, e_decT, e_decF, e_cDispS, e_cDT, e_cDK, e_cDisp1, e_storeA, e_stR1, e_stR2, e_stR3, e_sd1, e_keyD1, e_keyD2, e_keyTD, e_intsD, e_intsD0, e_borT, e_borT2, e_borK, e_borK2, e_argT, e_argT2, e_argK, e_argK2, e_nbT, e_nbK, e_putT, e_putK, e_gAt1, e_gAt2, e_gAt3, e_gAt4, e_gGetDK, e_gGetDT, e_gIxD, e_gInD, e_gNotInD, e_cGet1, e_cGet2, e_dk1, e_dk2, e_dk3, e_dk4, e_dt1, e_dt2, e_del, atI_zero, e_at1, e_at2, e_at3, e_at4, e_at5, e_at6, e_at7, e_at8, e_at9, e_atm, e_V, e_retV, e_unp, e_app, e_store, e_fzE, oS, rsO_some, Rs.bind_ok, Rs.bind_no, Rs.out_ok, Out.then_nx, Out.then_rt, Out.then_ct, Out.then_bk, fin_rt, fin_nx, List.getElem?_cons_zero, List.getElem?_cons_succ, List.set_cons_succ, List.set_cons_zero, List.length_cons, List.length_nil, Nat.reduceAdd, Nat.reduceLT, Nat.reduceLeDiff, Nat.reduceEqDiff, if_true, if_false, Bool.false_eq_true, Bool.not_true, Bool.not_false, and_self, true_and, and_true, List.map_cons, List.map_nil, Option.map_some, sh_int, sh_bool, sh_none, sh_tup, sh_lst, eqv_int, reduceIte, Option.bind_some, Option.bind_none, kitB_ll, kitB_lt, kitB_tt, kitB_tl, kitB_ii, tyD_list, tyD_int, Bool.true_and, Bool.false_and, Bool.and_true, Bool.and_false, Bool.or_true, Bool.true_or, Bool.false_or, Bool.or_false, Bool.and_self, Bool.or_self, e_cAK, List.append_nil, List.nil_append, List.cons_append, e_andB, e_orB, e_andR, e_orR, tyD_tuple, eqv_bool, eqv_none, tyD_bool, tyD_str, tyD_none, kitB_bb, kitB_nb, kitB_bi, kitB_ib, kitB_nl, kitB_nt, beq_self_eq_true, a5, hk, h1, if_pos z1, lcn, hN, if_pos nL, hM', d1, h2, h2', g1, g2, d2, hE, p0, isn, s1, s2] at hX
      exact hX.symm
    · rw [if_neg b2] at hf
      subst hf
      have d2 : decide ((c1 : Int) + (c2 : Int) > 8) = false := decide_eq_false (by omega)
      have p0 : F__law_told _ = .ok (.d (.tuple [.int 97, .int (M : Int), .tuple SD, OM])) := p0
      show X = L0_t2 [e0, e1, some (.ol DL), some (.d P1), some (.d P2), some (.ol LL), some (.d (.bool keep)), some (.d (.int (M : Int))), some (.d .none), some (.d (.tuple [.int 97, .int (M : Int), .tuple SD, OM])), e10, e11, e12, none]
      have q2 : gIx (.d (.tuple [.int 97, .int (M : Int), .tuple SD, OM])) (.d (.int 2)) = .ok (.d (.tuple SD)) := rfl
      have q3 : gSl (.d (.tuple [.int 97, .int (M : Int), .tuple SD, OM])) none (some 2) = .ok (.d (.tuple [.int 97, .int (M : Int)])) := rfl
      have q4 : gIsi "tuple" (.d (.tuple [.int 97, .int (M : Int), .tuple SD, OM])) = .ok (.d (.bool true)) := rfl
      have s1 : SeqAt.shaped (.tuple [.int 97, .int (M : Int)]) = true := sh_tup [97, (M : Int)]
      have s2 : PyData.eqv (.tuple [.int 97, .int (M : Int)]) (.tuple [.int 97, .int (M : Int)]) = true := by
        have := eqv_tup [97, (M : Int)] [97, (M : Int)]
        rw [decide_eq_true rfl] at this
        exact this
      have d3 : (!decide ((c1 : Int) + (c2 : Int) = (c1 : Int) + (c2 : Int))) = false := by rw [decide_eq_true rfl]; rfl
      generalize hE : PyData.tuple [.int 97, .int (M : Int), .tuple SD, OM] = E at *
      have q5 : tyD E = some "tuple" := by rw [← hE]; rfl
      have q6 : kitB "tuple" "tuple" = some true := rfl
      simp only [e_nil, e_seq, e_fz, e_bk, e_ct, e_ret, e_retN, e_drop, e_set, e_if, e_for, e_cC, e_c2, e_c1, e_cA, e_aN, e_aC, e_cB, e_asB, e_bNot, e_bAnd, e_bOr, e_vAnd, e_vOr, e_vNot, e_vIf, e_bYes, e_iL, e_iT, e_iLb, e_iR, e_gL1, e_gL2, e_gL3, e_gT, e_gLb1, e_gLb2, e_gLb3, e_gLb4, e_nb1, e_nb2, e_bor1, e_bor2, e_bor3, e_bor4, e_arg1, e_arg2, e_arg3, e_arg4, e_putd, e_puto, e_toD1, e_toD2, e_allD0, e_allD1, e_allD2, e_gTupl, e_gList, e_tgnm, e_tgtp, e_tg0, e_tg1, e_sq1, e_sq2, e_sq3, e_sq4, e_sq5, e_qv2, e_qv3, e_qv4, e_qv5, e_data1, e_data2, e_data3, e_okI, e_okB, e_i2, e_sub, e_mul, e_mod, e_div, e_pow, e_lt, e_le, e_gt, e_ge, e_neg, e_addI, e_addS, e_addT, e_addL1, e_addL2, e_addL3, e_addL4, e_addL5, e_addL6, e_addL7, e_addL8, e_addL9, e_eq, e_ne, e_in, e_notIn, e_inT, e_inT2, e_inL1, e_inL2, e_inL3, e_is, e_isNot, e_isN1, e_isN2, e_isN3, e_isN4, e_isN5, e_isN6, e_isN7, e_ixT, e_ixL, e_ixO, e_ixB, e_ixSc, e_lenT, e_lenL, e_lenO, e_lenB, e_lenSc, e_lenS, e_tupT, e_tupL, e_tupO, e_tupB, e_lisT, e_lisL, e_lisO, e_lisB, e_min2, e_max2, e_any, e_all, e_sum, e_sorted, e_rev, e_sl, e_oN, e_isi, e_lc, e_wipe0, e_wipe1, e_iA, e_iAb, e_gAq1, e_gAq2, e_gAq3, e_gAqb1, e_gAqb2, e_gAqb3, e_gAqb4, e_no, e_cCh, e_cChI, e_aug, e_decT, e_decF, e_cDispS, e_cDT, e_cDK, e_cDisp1, e_storeA, e_stR1, e_stR2, e_stR3, e_sd1, e_keyD1, e_keyD2, e_keyTD, e_intsD, e_intsD0, e_borT, e_borT2, e_borK, e_borK2, e_argT, e_argT2, e_argK, e_argK2, e_nbT, e_nbK, e_putT, e_putK, e_gAt1, e_gAt2, e_gAt3, e_gAt4, e_gGetDK, e_gGetDT, e_gIxD, e_gInD, e_gNotInD, e_cGet1, e_cGet2, e_dk1, e_dk2, e_dk3, e_dk4, e_dt1, e_dt2, e_del, atI_zero, e_at1, e_at2, e_at3, e_at4, e_at5, e_at6, e_at7, e_at8, e_at9, e_atm, e_V, e_retV, e_unp, e_app, e_store, e_fzE, oS, rsO_some, Rs.bind_ok, Rs.bind_no, Rs.out_ok, Out.then_nx, Out.then_rt, Out.then_ct, Out.then_bk, fin_rt, fin_nx, List.getElem?_cons_zero, List.getElem?_cons_succ, List.set_cons_succ, List.set_cons_zero, List.length_cons, List.length_nil, Nat.reduceAdd, Nat.reduceLT, Nat.reduceLeDiff, Nat.reduceEqDiff, if_true, if_false, Bool.false_eq_true, Bool.not_true, Bool.not_false, and_self, true_and, and_true, List.map_cons, List.map_nil, Option.map_some, sh_int, sh_bool, sh_none, sh_tup, sh_lst, eqv_int, reduceIte, Option.bind_some, Option.bind_none, kitB_ll, kitB_lt, kitB_tt, kitB_tl, kitB_ii, tyD_list, tyD_int, Bool.true_and, Bool.false_and, Bool.and_true, Bool.and_false, Bool.or_true, Bool.true_or, Bool.false_or, Bool.or_false, Bool.and_self, Bool.or_self, e_cAK, List.append_nil, List.nil_append, List.cons_append, e_andB, e_orB, e_andR, e_orR, tyD_tuple, eqv_bool, eqv_none, tyD_bool, tyD_str, tyD_none, kitB_bb, kitB_nb, kitB_bi, kitB_ib, kitB_nl, kitB_nt, beq_self_eq_true, a5, hk, h1, if_pos z1, lcn, hN, if_pos nL, hM', d1, h2, h2', g1, g2, d2, p0, isNone, q2, q3, q4, q5, q6, g3, s1, s2, d3] at hX
      exact hX.symm
theorem t2_ok {P1 P2 : PyData} {c1 d0 d2 d6 d7 : Nat} {DL LL S1 : List PyData} (keep : Bool) (f : Option (Str × Int)) (MV : List Int) (h6 : d6 < 65) (h7 : d7 < 65) (hfw : ∀ w x, f = some (w, x) → PyData.strOk w = true) (hLL : LL.length ≤ 1000)
    (hMV : MV = List.replicate (1 + 2 * d6) (d0 : Int) ++ List.replicate (1 + 2 * d7) ((c1 + d2 : Nat) : Int) ++ (if keep = true then [] else List.replicate (1 + 2 * d6) (d0 : Int)))
    (a0 : atI DL 0 = some (.int (d0 : Int))) (a2 : atI DL 2 = some (.int (d2 : Int))) (a6 : atI DL 6 = some (.int (d6 : Int))) (a7 : atI DL 7 = some (.int (d7 : Int))) (h2 : gIx (.d P1) (.d (.int 2)) = .ok (.d (.tuple S1))) (l1 : S1.length = c1)
    (p1 : F__law_told [.d (.int 1), .d P1, .d P2, .d (.tuple LL), .d (.list [.list ((List.replicate (1 + 2 * d6) (d0 : Int)).map .int), .list ((List.replicate (1 + 2 * d7) (d2 : Int)).map .int)]), .d (.bool keep)] = flR f (if 255 < MV.length then .ok (.d (.tuple [.str "too many moves", .int (-1)])) else .ok (.ol (MV.map .int)))) (e0 e1 e7 e9 e10 e11 e12 : Option RV) :
    ∃ e10' e11' e12', L0_t2 [e0, e1, some (.ol DL), some (.d P1), some (.d P2), some (.ol LL), some (.d (.bool keep)), e7, some (.d (fltD f)), e9, e10, e11, e12, none]
      = .nx [e0, e1, some (.ol DL), some (.d P1), some (.d P2), some (.ol LL), some (.d (.bool keep)), e7, some (.d (fltD f)), e9, e10', e11', e12', none] := by
  have g1 : gLen [.d (.tuple S1)] = .ok (.d (.int (c1 : Int))) := by rw [e_lenT, l1]
  have r1 := rep_int (d0 : Int) (1 + 2 * d6) (by omega)
  have r2 := rep_int (d2 : Int) (1 + 2 * d7) (by omega)
  have r3 := rep_int ((c1 + d2 : Nat) : Int) (1 + 2 * d7) (by omega)
  have i6 : (1 : Int) + 2 * (d6 : Int) = ((1 + 2 * d6 : Nat) : Int) := by omega
  have i7 : (1 : Int) + 2 * (d7 : Int) = ((1 + 2 * d7 : Nat) : Int) := by omega
  have ic : (c1 : Int) + (d2 : Int) = ((c1 + d2 : Nat) : Int) := by omega
  have m6 : (2 : Int).natAbs < 18446744073709551616 ∨ ((d6 : Nat) : Int).natAbs < 18446744073709551616 := .inl (by decide)
  have m7 : (2 : Int).natAbs < 18446744073709551616 ∨ ((d7 : Nat) : Int).natAbs < 18446744073709551616 := .inl (by decide)
  have lB : ((List.replicate (1 + 2 * d7) (d2 : Int)).map PyData.int).length = 1 + 2 * d7 := by rw [List.length_map, List.length_replicate]
  have lA : ((List.replicate (1 + 2 * d6) (d0 : Int)).map PyData.int).length = 1 + 2 * d6 := by rw [List.length_map, List.length_replicate]
  have lR : ((List.replicate (1 + 2 * d7) ((c1 + d2 : Nat) : Int)).map PyData.int).length = 1 + 2 * d7 := by rw [List.length_map, List.length_replicate]
  have hm : MV.map PyData.int = (List.replicate (1 + 2 * d6) (d0 : Int)).map .int ++ (List.replicate (1 + 2 * d7) ((c1 + d2 : Nat) : Int)).map .int ++ (if keep = true then [] else (List.replicate (1 + 2 * d6) (d0 : Int)).map .int) := by
    rw [hMV, List.map_append, List.map_append]
    cases keep <;> rfl
  have hl : (MV.map PyData.int).length = MV.length := List.length_map ..
  have sm := sh_lst MV
  have em := eqv_lst MV MV
  rw [decide_eq_true rfl] at em
  rw [hm] at hl sm em p1
  clear hMV hm
  have g0 : ∀ A B : List PyData, atI [PyData.list A, .list B] 0 = some (.list A) := fun _ _ => rfl
  have g0' : ∀ A B : List PyData, atI [PyData.list A, .list B] 1 = some (.list B) := fun _ _ => rfl
  have nm := fault_nice wtmm_ok (-1)
  have s1 : SeqAt.shaped (.tuple [.str "too many moves", .int (-1)]) = true := nm.shaped (by decide)
  have s2 : PyData.eqv (.tuple [.str "too many moves", .int (-1)]) (.tuple [.str "too many moves", .int (-1)]) = true := nm.refl
  have zL : LL.length ≤ 1000000 := by omega
  generalize hX : L0_t2 _ = X
  unfold L0_t2 at hX
  generalize (List.replicate (1 + 2 * d6) (d0 : Int)).map PyData.int = A at *
  generalize (List.replicate (1 + 2 * d7) (d2 : Int)).map PyData.int = B at *
  generalize (List.replicate (1 + 2 * d7) ((c1 + d2 : Nat) : Int)).map PyData.int = R at *
  have lBi : (B.length : Int) = ((1 + 2 * d7 : Nat) : Int) := by omega
  have z1 : A.length + R.length ≤ 1000000 := by omega
  have z2 : (A ++ R).length + A.length ≤ 1000000 := by rw [List.length_append]; omega
  cases keep with
  | true =>
    rw [if_pos rfl, List.append_nil] at hl sm em p1
    have zW : (A ++ R).length ≤ 1000000 := by rw [List.length_append]; omega
    by_cases c : 255 < MV.length
    · have d1 : decide ((((A ++ R).length : Nat) : Int) > 255) = true := decide_eq_true (by omega)
      cases f with
      | some wx =>
        obtain ⟨w, x⟩ := wx
        have nn := fault_nice (hfw w x rfl) x
        have t1 : SeqAt.shaped (.tuple [.str w, .int x]) = true := nn.shaped (by decide)
        have t2 : PyData.eqv (.tuple [.str w, .int x]) (.tuple [.str w, .int x]) = true := nn.refl
        have p1 : F__law_told _ = .ok (.d (.tuple [.str w, .int x])) := p1
        have fd : fltD (some (w, x)) = .tuple [.str w, .int x] := rfl
        rw [fd] at hX ⊢
        generalize hE : PyData.tuple [.str w, .int x] = E at *
        have isn : isNone (.d E) = false := by rw [← hE]; rfl
        simp only [e_nil, e_seq, e_fz, e_bk, e_ct, e_ret, e_retN, e_drop, e_set, e_if, e_for, e_cC, e_c2, e_c1, e_cA, e_aN, e_aC, e_cB, e_asB, e_bNot, e_bAnd, e_bOr, e_vAnd, e_vOr, e_vNot, e_vIf, e_bYes, e_iL, e_iT, e_iLb, e_iR, e_gL1, e_gL2, e_gL3, e_gT, e_gLb1, e_gLb2, e_gLb3, e_gLb4, e_nb1, e_nb2, e_bor1, e_bor2, e_bor3, e_bor4, e_arg1, e_arg2, e_arg3, e_arg4, e_putd, e_puto, e_toD1, e_toD2, e_allD0, e_allD1, e_allD2, e_gTupl, e_gList, e_tgnm, e_tgtp, e_tg0, e_tg1, e_sq1, e_sq2, e_sq3, e_sq4, e_sq5, e_qv2, e_qv3, e_qv4, e_qv5, e_data1, e_data2, e_data3, e_okI, e_okB, e_i2, e_sub, e_mul, e_mod, e_div, e_pow, e_lt, e_le, e_gt, e_ge, e_neg, e_addI, e_addS, e_addT, e_addL1, e_addL2, e_addL3, e_addL4, e_addL5, e_addL6, e_addL7, e_addL8, e_addL9, e_eq, e_ne, e_in, e_notIn, e_inT, e_inT2, e_inL1, e_inL2, e_inL3, e_is, e_isNot, e_isN1, e_isN2, e_isN3, e_isN4, e_isN5, e_isN6, e_isN7, e_ixT, e_ixL, e_ixO, e_ixB, e_ixSc, e_lenT, e_lenL, e_lenO, e_lenB, e_lenSc, e_lenS, e_tupT, e_tupL, e_tupO, e_tupB, e_lisT, e_lisL, e_lisO, e_lisB, e_min2, e_max2, e_any, e_all, e_sum, e_sorted, e_rev, e_sl, e_oN, e_isi, e_lc, e_wipe0, e_wipe1, e_iA, e_iAb, e_gAq1, e_gAq2, e_gAq3, e_gAqb1, e_gAqb2, e_gAqb3, e_gAqb4, e_no, e_cCh, e_cChI, e_aug, e_decT, e_decF, e_cDispS, e_cDT, e_cDK, e_cDisp1, e_storeA, e_stR1, e_stR2, e_stR3, e_sd1, e_keyD1, e_keyD2, e_keyTD, e_intsD, e_intsD0, e_borT, e_borT2, e_borK, e_borK2, e_argT, e_argT2, e_argK, e_argK2, e_nbT, e_nbK, e_putT, e_putK, e_gAt1, e_gAt2, e_gAt3, e_gAt4, e_gGetDK, e_gGetDT, e_gIxD, e_gInD, e_gNotInD, e_cGet1, e_cGet2, e_dk1, e_dk2, e_dk3, e_dk4, e_dt1, e_dt2, e_del, atI_zero, e_at1, e_at2, e_at3, e_at4, e_at5, e_at6, e_at7, e_at8, e_at9, e_atm, e_V, e_retV, e_unp, e_app, e_store, e_fzE, oS, rsO_some, Rs.bind_ok, Rs.bind_no, Rs.out_ok, Out.then_nx, Out.then_rt, Out.then_ct, Out.then_bk, fin_rt, fin_nx, List.getElem?_cons_zero, List.getElem?_cons_succ, List.set_cons_succ, List.set_cons_zero, List.length_cons, List.length_nil, Nat.reduceAdd, Nat.reduceLT, Nat.reduceLeDiff, Nat.reduceEqDiff, if_true, if_false, Bool.false_eq_true, Bool.not_true, Bool.not_false, and_self, true_and, and_true, List.map_cons, List.map_nil, Option.map_some, sh_int, sh_bool, sh_none, sh_tup, sh_lst, eqv_int, reduceIte, Option.bind_some, Option.bind_none, kitB_ll, kitB_lt, kitB_tt, kitB_tl, kitB_ii, tyD_list, tyD_int, Bool.true_and, Bool.false_and, Bool.and_true, Bool.and_false, Bool.or_true, Bool.true_or, Bool.false_or, Bool.or_false, Bool.and_self, Bool.or_self, e_cAK, List.append_nil, List.nil_append, List.cons_append, e_andB, e_orB, e_andR, e_orR, tyD_tuple, eqv_bool, eqv_none, tyD_bool, tyD_str, tyD_none, kitB_bb, kitB_nb, kitB_bi, kitB_ib, kitB_nl, kitB_nt, beq_self_eq_true, a0, a2, a6, a7, if_pos m6, if_pos m7, i6, i7, r1, r2, g0, g0', h2, g1, ic, lBi, r3, if_pos z1, if_pos z2, if_pos zW, if_pos zL, d1, p1, isn, t1, t2] at hX
        subst hX
        exact ⟨_, _, _, rfl⟩
      | none =>
        simp only [flR, if_pos c] at p1
        have fd : fltD none = .none := rfl
        rw [fd] at hX ⊢
        simp only [e_nil, e_seq, e_fz, e_bk, e_ct, e_ret, e_retN, e_drop, e_set, e_if, e_for, e_cC, e_c2, e_c1, e_cA, e_aN, e_aC, e_cB, e_asB, e_bNot, e_bAnd, e_bOr, e_vAnd, e_vOr, e_vNot, e_vIf, e_bYes, e_iL, e_iT, e_iLb, e_iR, e_gL1, e_gL2, e_gL3, e_gT, e_gLb1, e_gLb2, e_gLb3, e_gLb4, e_nb1, e_nb2, e_bor1, e_bor2, e_bor3, e_bor4, e_arg1, e_arg2, e_arg3, e_arg4, e_putd, e_puto, e_toD1, e_toD2, e_allD0, e_allD1, e_allD2, e_gTupl, e_gList, e_tgnm, e_tgtp, e_tg0, e_tg1, e_sq1, e_sq2, e_sq3, e_sq4, e_sq5, e_qv2, e_qv3, e_qv4, e_qv5, e_data1, e_data2, e_data3, e_okI, e_okB, e_i2, e_sub, e_mul, e_mod, e_div, e_pow, e_lt, e_le, e_gt, e_ge, e_neg, e_addI, e_addS, e_addT, e_addL1, e_addL2, e_addL3, e_addL4, e_addL5, e_addL6, e_addL7, e_addL8, e_addL9, e_eq, e_ne, e_in, e_notIn, e_inT, e_inT2, e_inL1, e_inL2, e_inL3, e_is, e_isNot, e_isN1, e_isN2, e_isN3, e_isN4, e_isN5, e_isN6, e_isN7, e_ixT, e_ixL, e_ixO, e_ixB, e_ixSc, e_lenT, e_lenL, e_lenO, e_lenB, e_lenSc, e_lenS, e_tupT, e_tupL, e_tupO, e_tupB, e_lisT, e_lisL, e_lisO, e_lisB, e_min2, e_max2, e_any, e_all, e_sum, e_sorted, e_rev, e_sl, e_oN, e_isi, e_lc, e_wipe0, e_wipe1, e_iA, e_iAb, e_gAq1, e_gAq2, e_gAq3, e_gAqb1, e_gAqb2, e_gAqb3, e_gAqb4, e_no, e_cCh, e_cChI, e_aug, e_decT, e_decF, e_cDispS, e_cDT, e_cDK, e_cDisp1, e_storeA, e_stR1, e_stR2, e_stR3, e_sd1, e_keyD1, e_keyD2, e_keyTD, e_intsD, e_intsD0, e_borT, e_borT2, e_borK, e_borK2, e_argT, e_argT2, e_argK, e_argK2, e_nbT, e_nbK, e_putT, e_putK, e_gAt1, e_gAt2, e_gAt3, e_gAt4, e_gGetDK, e_gGetDT, e_gIxD, e_gInD, e_gNotInD, e_cGet1, e_cGet2, e_dk1, e_dk2, e_dk3, e_dk4, e_dt1, e_dt2, e_del, atI_zero, e_at1, e_at2, e_at3, e_at4, e_at5, e_at6, e_at7, e_at8, e_at9, e_atm, e_V, e_retV, e_unp, e_app, e_store, e_fzE, oS, rsO_some, Rs.bind_ok, Rs.bind_no, Rs.out_ok, Out.then_nx, Out.then_rt, Out.then_ct, Out.then_bk, fin_rt, fin_nx, List.getElem?_cons_zero, List.getElem?_cons_succ, List.set_cons_succ, List.set_cons_zero, List.length_cons, List.length_nil, Nat.reduceAdd, Nat.reduceLT, Nat.reduceLeDiff, Nat.reduceEqDiff, if_true, if_false, Bool.false_eq_true, Bool.not_true, Bool.not_false, and_self, true_and, and_true, List.map_cons, List.map_nil, Option.map_some, sh_int, sh_bool, sh_none, sh_tup, sh_lst, eqv_int, reduceIte, Option.bind_some, Option.bind_none, kitB_ll, kitB_lt, kitB_tt, kitB_tl, kitB_ii, tyD_list, tyD_int, Bool.true_and, Bool.false_and, Bool.and_true, Bool.and_false, Bool.or_true, Bool.true_or, Bool.false_or, Bool.or_false, Bool.and_self, Bool.or_self, e_cAK, List.append_nil, List.nil_append, List.cons_append, e_andB, e_orB, e_andR, e_orR, tyD_tuple, eqv_bool, eqv_none, tyD_bool, tyD_str, tyD_none, kitB_bb, kitB_nb, kitB_bi, kitB_ib, kitB_nl, kitB_nt, beq_self_eq_true, a0, a2, a6, a7, if_pos m6, if_pos m7, i6, i7, r1, r2, g0, g0', h2, g1, ic, lBi, r3, if_pos z1, if_pos z2, if_pos zW, if_pos zL, d1, p1, isNone, sm, em, s1, s2] at hX
        subst hX
        exact ⟨_, _, _, rfl⟩
    · have d1 : decide ((((A ++ R).length : Nat) : Int) > 255) = false := decide_eq_false (by omega)
      cases f with
      | some wx =>
        obtain ⟨w, x⟩ := wx
        have nn := fault_nice (hfw w x rfl) x
        have t1 : SeqAt.shaped (.tuple [.str w, .int x]) = true := nn.shaped (by decide)
        have t2 : PyData.eqv (.tuple [.str w, .int x]) (.tuple [.str w, .int x]) = true := nn.refl
        have p1 : F__law_told _ = .ok (.d (.tuple [.str w, .int x])) := p1
        have fd : fltD (some (w, x)) = .tuple [.str w, .int x] := rfl
        rw [fd] at hX ⊢
        generalize hE : PyData.tuple [.str w, .int x] = E at *
        have isn : isNone (.d E) = false := by rw [← hE]; rfl
        simp only [e_nil, e_seq, e_fz, e_bk, e_ct, e_ret, e_retN, e_drop, e_set, e_if, e_for, e_cC, e_c2, e_c1, e_cA, e_aN, e_aC, e_cB, e_asB, e_bNot, e_bAnd, e_bOr, e_vAnd, e_vOr, e_vNot, e_vIf, e_bYes, e_iL, e_iT, e_iLb, e_iR, e_gL1, e_gL2, e_gL3, e_gT, e_gLb1, e_gLb2, e_gLb3, e_gLb4, e_nb1, e_nb2, e_bor1, e_bor2, e_bor3, e_bor4, e_arg1, e_arg2, e_arg3, e_arg4, e_putd, e_puto, e_toD1, e_toD2, e_allD0, e_allD1, e_allD2, e_gTupl, e_gList, e_tgnm, e_tgtp, e_tg0, e_tg1, e_sq1, e_sq2, e_sq3, e_sq4, e_sq5, e_qv2, e_qv3, e_qv4, e_qv5, e_data1, e_data2, e_data3, e_okI, e_okB, e_i2, e_sub, e_mul, e_mod, e_div, e_pow, e_lt, e_le, e_gt, e_ge, e_neg, e_addI, e_addS, e_addT, e_addL1, e_addL2, e_addL3, e_addL4, e_addL5, e_addL6, e_addL7, e_addL8, e_addL9, e_eq, e_ne, e_in, e_notIn, e_inT, e_inT2, e_inL1, e_inL2, e_inL3, e_is, e_isNot, e_isN1, e_isN2, e_isN3, e_isN4, e_isN5, e_isN6, e_isN7, e_ixT, e_ixL, e_ixO, e_ixB, e_ixSc, e_lenT, e_lenL, e_lenO, e_lenB, e_lenSc, e_lenS, e_tupT, e_tupL, e_tupO, e_tupB, e_lisT, e_lisL, e_lisO, e_lisB, e_min2, e_max2, e_any, e_all, e_sum, e_sorted, e_rev, e_sl, e_oN, e_isi, e_lc, e_wipe0, e_wipe1, e_iA, e_iAb, e_gAq1, e_gAq2, e_gAq3, e_gAqb1, e_gAqb2, e_gAqb3, e_gAqb4, e_no, e_cCh, e_cChI, e_aug, e_decT, e_decF, e_cDispS, e_cDT, e_cDK, e_cDisp1, e_storeA, e_stR1, e_stR2, e_stR3, e_sd1, e_keyD1, e_keyD2, e_keyTD, e_intsD, e_intsD0, e_borT, e_borT2, e_borK, e_borK2, e_argT, e_argT2, e_argK, e_argK2, e_nbT, e_nbK, e_putT, e_putK, e_gAt1, e_gAt2, e_gAt3, e_gAt4, e_gGetDK, e_gGetDT, e_gIxD, e_gInD, e_gNotInD, e_cGet1, e_cGet2, e_dk1, e_dk2, e_dk3, e_dk4, e_dt1, e_dt2, e_del, atI_zero, e_at1, e_at2, e_at3, e_at4, e_at5, e_at6, e_at7, e_at8, e_at9, e_atm, e_V, e_retV, e_unp, e_app, e_store, e_fzE, oS, rsO_some, Rs.bind_ok, Rs.bind_no, Rs.out_ok, Out.then_nx, Out.then_rt, Out.then_ct, Out.then_bk, fin_rt, fin_nx, List.getElem?_cons_zero, List.getElem?_cons_succ, List.set_cons_succ, List.set_cons_zero, List.length_cons, List.length_nil, Nat.reduceAdd, Nat.reduceLT, Nat.reduceLeDiff, Nat.reduceEqDiff, if_true, if_false, Bool.false_eq_true, Bool.not_true, Bool.not_false, and_self, true_and, and_true, List.map_cons, List.map_nil, Option.map_some, sh_int, sh_bool, sh_none, sh_tup, sh_lst, eqv_int, reduceIte, Option.bind_some, Option.bind_none, kitB_ll, kitB_lt, kitB_tt, kitB_tl, kitB_ii, tyD_list, tyD_int, Bool.true_and, Bool.false_and, Bool.and_true, Bool.and_false, Bool.or_true, Bool.true_or, Bool.false_or, Bool.or_false, Bool.and_self, Bool.or_self, e_cAK, List.append_nil, List.nil_append, List.cons_append, e_andB, e_orB, e_andR, e_orR, tyD_tuple, eqv_bool, eqv_none, tyD_bool, tyD_str, tyD_none, kitB_bb, kitB_nb, kitB_bi, kitB_ib, kitB_nl, kitB_nt, beq_self_eq_true, a0, a2, a6, a7, if_pos m6, if_pos m7, i6, i7, r1, r2, g0, g0', h2, g1, ic, lBi, r3, if_pos z1, if_pos z2, if_pos zW, if_pos zL, d1, p1, isn, t1, t2] at hX
        subst hX
        exact ⟨_, _, _, rfl⟩
      | none =>
        simp only [flR, if_neg c] at p1
        have fd : fltD none = .none := rfl
        rw [fd] at hX ⊢
        simp only [e_nil, e_seq, e_fz, e_bk, e_ct, e_ret, e_retN, e_drop, e_set, e_if, e_for, e_cC, e_c2, e_c1, e_cA, e_aN, e_aC, e_cB, e_asB, e_bNot, e_bAnd, e_bOr, e_vAnd, e_vOr, e_vNot, e_vIf, e_bYes, e_iL, e_iT, e_iLb, e_iR, e_gL1, e_gL2, e_gL3, e_gT, e_gLb1, e_gLb2, e_gLb3, e_gLb4, e_nb1, e_nb2, e_bor1, e_bor2, e_bor3, e_bor4, e_arg1, e_arg2, e_arg3, e_arg4, e_putd, e_puto, e_toD1, e_toD2, e_allD0, e_allD1, e_allD2, e_gTupl, e_gList, e_tgnm, e_tgtp, e_tg0, e_tg1, e_sq1, e_sq2, e_sq3, e_sq4, e_sq5, e_qv2, e_qv3, e_qv4, e_qv5, e_data1, e_data2, e_data3, e_okI, e_okB, e_i2, e_sub, e_mul, e_mod, e_div, e_pow, e_lt, e_le, e_gt, e_ge, e_neg, e_addI, e_addS, e_addT, e_addL1, e_addL2, e_addL3, e_addL4, e_addL5, e_addL6, e_addL7, e_addL8, e_addL9, e_eq, e_ne, e_in, e_notIn, e_inT, e_inT2, e_inL1, e_inL2, e_inL3, e_is, e_isNot, e_isN1, e_isN2, e_isN3, e_isN4, e_isN5, e_isN6, e_isN7, e_ixT, e_ixL, e_ixO, e_ixB, e_ixSc, e_lenT, e_lenL, e_lenO, e_lenB, e_lenSc, e_lenS, e_tupT, e_tupL, e_tupO, e_tupB, e_lisT, e_lisL, e_lisO, e_lisB, e_min2, e_max2, e_any, e_all, e_sum, e_sorted, e_rev, e_sl, e_oN, e_isi, e_lc, e_wipe0, e_wipe1, e_iA, e_iAb, e_gAq1, e_gAq2, e_gAq3, e_gAqb1, e_gAqb2, e_gAqb3, e_gAqb4, e_no, e_cCh, e_cChI, e_aug, e_decT, e_decF, e_cDispS, e_cDT, e_cDK, e_cDisp1, e_storeA, e_stR1, e_stR2, e_stR3, e_sd1, e_keyD1, e_keyD2, e_keyTD, e_intsD, e_intsD0, e_borT, e_borT2, e_borK, e_borK2, e_argT, e_argT2, e_argK, e_argK2, e_nbT, e_nbK, e_putT, e_putK, e_gAt1, e_gAt2, e_gAt3, e_gAt4, e_gGetDK, e_gGetDT, e_gIxD, e_gInD, e_gNotInD, e_cGet1, e_cGet2, e_dk1, e_dk2, e_dk3, e_dk4, e_dt1, e_dt2, e_del, atI_zero, e_at1, e_at2, e_at3, e_at4, e_at5, e_at6, e_at7, e_at8, e_at9, e_atm, e_V, e_retV, e_unp, e_app, e_store, e_fzE, oS, rsO_some, Rs.bind_ok, Rs.bind_no, Rs.out_ok, Out.then_nx, Out.then_rt, Out.then_ct, Out.then_bk, fin_rt, fin_nx, List.getElem?_cons_zero, List.getElem?_cons_succ, List.set_cons_succ, List.set_cons_zero, List.length_cons, List.length_nil, Nat.reduceAdd, Nat.reduceLT, Nat.reduceLeDiff, Nat.reduceEqDiff, if_true, if_false, Bool.false_eq_true, Bool.not_true, Bool.not_false, and_self, true_and, and_true, List.map_cons, List.map_nil, Option.map_some, sh_int, sh_bool, sh_none, sh_tup, sh_lst, eqv_int, reduceIte, Option.bind_some, Option.bind_none, kitB_ll, kitB_lt, kitB_tt, kitB_tl, kitB_ii, tyD_list, tyD_int, Bool.true_and, Bool.false_and, Bool.and_true, Bool.and_false, Bool.or_true, Bool.true_or, Bool.false_or, Bool.or_false, Bool.and_self, Bool.or_self, e_cAK, List.append_nil, List.nil_append, List.cons_append, e_andB, e_orB, e_andR, e_orR, tyD_tuple, eqv_bool, eqv_none, tyD_bool, tyD_str, tyD_none, kitB_bb, kitB_nb, kitB_bi, kitB_ib, kitB_nl, kitB_nt, beq_self_eq_true, a0, a2, a6, a7, if_pos m6, if_pos m7, i6, i7, r1, r2, g0, g0', h2, g1, ic, lBi, r3, if_pos z1, if_pos z2, if_pos zW, if_pos zL, d1, p1, isNone, sm, em, s1, s2] at hX
        subst hX
        exact ⟨_, _, _, rfl⟩
  | false =>
    rw [if_neg (show ¬ (false = true) by decide)] at hl sm em p1
    have zW : (A ++ R ++ A).length ≤ 1000000 := by rw [List.length_append]; omega
    by_cases c : 255 < MV.length
    · have d1 : decide ((((A ++ R ++ A).length : Nat) : Int) > 255) = true := decide_eq_true (by omega)
      cases f with
      | some wx =>
        obtain ⟨w, x⟩ := wx
        have nn := fault_nice (hfw w x rfl) x
        have t1 : SeqAt.shaped (.tuple [.str w, .int x]) = true := nn.shaped (by decide)
        have t2 : PyData.eqv (.tuple [.str w, .int x]) (.tuple [.str w, .int x]) = true := nn.refl
        have p1 : F__law_told _ = .ok (.d (.tuple [.str w, .int x])) := p1
        have fd : fltD (some (w, x)) = .tuple [.str w, .int x] := rfl
        rw [fd] at hX ⊢
        generalize hE : PyData.tuple [.str w, .int x] = E at *
        have isn : isNone (.d E) = false := by rw [← hE]; rfl
        simp only [e_nil, e_seq, e_fz, e_bk, e_ct, e_ret, e_retN, e_drop, e_set, e_if, e_for, e_cC, e_c2, e_c1, e_cA, e_aN, e_aC, e_cB, e_asB, e_bNot, e_bAnd, e_bOr, e_vAnd, e_vOr, e_vNot, e_vIf, e_bYes, e_iL, e_iT, e_iLb, e_iR, e_gL1, e_gL2, e_gL3, e_gT, e_gLb1, e_gLb2, e_gLb3, e_gLb4, e_nb1, e_nb2, e_bor1, e_bor2, e_bor3, e_bor4, e_arg1, e_arg2, e_arg3, e_arg4, e_putd, e_puto, e_toD1, e_toD2, e_allD0, e_allD1, e_allD2, e_gTupl, e_gList, e_tgnm, e_tgtp, e_tg0, e_tg1, e_sq1, e_sq2, e_sq3, e_sq4, e_sq5, e_qv2, e_qv3, e_qv4, e_qv5, e_data1, e_data2, e_data3, e_okI, e_okB, e_i2, e_sub, e_mul, e_mod, e_div, e_pow, e_lt, e_le, e_gt, e_ge, e_neg, e_addI, e_addS, e_addT, e_addL1, e_addL2, e_addL3, e_addL4, e_addL5, e_addL6, e_addL7, e_addL8, e_addL9, e_eq, e_ne, e_in, e_notIn, e_inT, e_inT2, e_inL1, e_inL2, e_inL3, e_is, e_isNot, e_isN1, e_isN2, e_isN3, e_isN4, e_isN5, e_isN6, e_isN7, e_ixT, e_ixL, e_ixO, e_ixB, e_ixSc, e_lenT, e_lenL, e_lenO, e_lenB, e_lenSc, e_lenS, e_tupT, e_tupL, e_tupO, e_tupB, e_lisT, e_lisL, e_lisO, e_lisB, e_min2, e_max2, e_any, e_all, e_sum, e_sorted, e_rev, e_sl, e_oN, e_isi, e_lc, e_wipe0, e_wipe1, e_iA, e_iAb, e_gAq1, e_gAq2, e_gAq3, e_gAqb1, e_gAqb2, e_gAqb3, e_gAqb4, e_no, e_cCh, e_cChI, e_aug, e_decT, e_decF, e_cDispS, e_cDT, e_cDK, e_cDisp1, e_storeA, e_stR1, e_stR2, e_stR3, e_sd1, e_keyD1, e_keyD2, e_keyTD, e_intsD, e_intsD0, e_borT, e_borT2, e_borK, e_borK2, e_argT, e_argT2, e_argK, e_argK2, e_nbT, e_nbK, e_putT, e_putK, e_gAt1, e_gAt2, e_gAt3, e_gAt4, e_gGetDK, e_gGetDT, e_gIxD, e_gInD, e_gNotInD, e_cGet1, e_cGet2, e_dk1, e_dk2, e_dk3, e_dk4, e_dt1, e_dt2, e_del, atI_zero, e_at1, e_at2, e_at3, e_at4, e_at5, e_at6, e_at7, e_at8, e_at9, e_atm, e_V, e_retV, e_unp, e_app, e_store, e_fzE, oS, rsO_some, Rs.bind_ok, Rs.bind_no, Rs.out_ok, Out.then_nx, Out.then_rt, Out.then_ct, Out.then_bk, fin_rt, fin_nx, List.getElem?_cons_zero, List.getElem?_cons_succ, List.set_cons_succ, List.set_cons_zero, List.length_cons, List.length_nil, Nat.reduceAdd, Nat.reduceLT, Nat.reduceLeDiff, Nat.reduceEqDiff, if_true, if_false, Bool.false_eq_true, Bool.not_true, Bool.not_false, and_self, true_and, and_true, List.map_cons, List.map_nil, Option.map_some, sh_int, sh_bool, sh_none, sh_tup, sh_lst, eqv_int, reduceIte, Option.bind_some, Option.bind_none, kitB_ll, kitB_lt, kitB_tt, kitB_tl, kitB_ii, tyD_list, tyD_int, Bool.true_and, Bool.false_and, Bool.and_true, Bool.and_false, Bool.or_true, Bool.true_or, Bool.false_or, Bool.or_false, Bool.and_self, Bool.or_self, e_cAK, List.append_nil, List.nil_append, List.cons_append, e_andB, e_orB, e_andR, e_orR, tyD_tuple, eqv_bool, eqv_none, tyD_bool, tyD_str, tyD_none, kitB_bb, kitB_nb, kitB_bi, kitB_ib, kitB_nl, kitB_nt, beq_self_eq_true, a0, a2, a6, a7, if_pos m6, if_pos m7, i6, i7, r1, r2, g0, g0', h2, g1, ic, lBi, r3, if_pos z1, if_pos z2, if_pos zW, if_pos zL, d1, p1, isn, t1, t2] at hX
        subst hX
        exact ⟨_, _, _, rfl⟩
      | none =>
        simp only [flR, if_pos c] at p1
        have fd : fltD none = .none := rfl
        rw [fd] at hX ⊢
        simp only [e_nil, e_seq, e_fz, e_bk, e_ct, e_ret, e_retN, e_drop, e_set, e_if, e_for, e_cC, e_c2, e_c1, e_cA, e_aN, e_aC, e_cB, e_asB, e_bNot, e_bAnd, e_bOr, e_vAnd, e_vOr, e_vNot, e_vIf, e_bYes, e_iL, e_iT, e_iLb, e_iR, e_gL1, e_gL2, e_gL3, e_gT, e_gLb1, e_gLb2, e_gLb3, e_gLb4, e_nb1, e_nb2, e_bor1, e_bor2, e_bor3, e_bor4, e_arg1, e_arg2, e_arg3, e_arg4, e_putd, e_puto, e_toD1, e_toD2, e_allD0, e_allD1, e_allD2, e_gTupl, e_gList, e_tgnm, e_tgtp, e_tg0, e_tg1, e_sq1, e_sq2, e_sq3, e_sq4, e_sq5, e_qv2, e_qv3, e_qv4, e_qv5, e_data1, e_data2, e_data3, e_okI, e_okB, e_i2, e_sub, e_mul, e_mod, e_div, e_pow, e_lt, e_le, e_gt, e_ge, e_neg, e_addI, e_addS, e_addT, e_addL1, e_addL2, e_addL3, e_addL4, e_addL5, e_addL6, e_addL7, e_addL8, e_addL9, e_eq, e_ne, e_in, e_notIn, e_inT, e_inT2, e_inL1, e_inL2, e_inL3, e_is, e_isNot, e_isN1, e_isN2, e_isN3, e_isN4, e_isN5, e_isN6, e_isN7, e_ixT, e_ixL, e_ixO, e_ixB, e_ixSc, e_lenT, e_lenL, e_lenO, e_lenB, e_lenSc, e_lenS, e_tupT, e_tupL, e_tupO, e_tupB, e_lisT, e_lisL, e_lisO, e_lisB, e_min2, e_max2, e_any, e_all, e_sum, e_sorted, e_rev, e_sl, e_oN, e_isi, e_lc, e_wipe0, e_wipe1, e_iA, e_iAb, e_gAq1, e_gAq2, e_gAq3, e_gAqb1, e_gAqb2, e_gAqb3, e_gAqb4, e_no, e_cCh, e_cChI, e_aug, e_decT, e_decF, e_cDispS, e_cDT, e_cDK, e_cDisp1, e_storeA, e_stR1, e_stR2, e_stR3, e_sd1, e_keyD1, e_keyD2, e_keyTD, e_intsD, e_intsD0, e_borT, e_borT2, e_borK, e_borK2, e_argT, e_argT2, e_argK, e_argK2, e_nbT, e_nbK, e_putT, e_putK, e_gAt1, e_gAt2, e_gAt3, e_gAt4, e_gGetDK, e_gGetDT, e_gIxD, e_gInD, e_gNotInD, e_cGet1, e_cGet2, e_dk1, e_dk2, e_dk3, e_dk4, e_dt1, e_dt2, e_del, atI_zero, e_at1, e_at2, e_at3, e_at4, e_at5, e_at6, e_at7, e_at8, e_at9, e_atm, e_V, e_retV, e_unp, e_app, e_store, e_fzE, oS, rsO_some, Rs.bind_ok, Rs.bind_no, Rs.out_ok, Out.then_nx, Out.then_rt, Out.then_ct, Out.then_bk, fin_rt, fin_nx, List.getElem?_cons_zero, List.getElem?_cons_succ, List.set_cons_succ, List.set_cons_zero, List.length_cons, List.length_nil, Nat.reduceAdd, Nat.reduceLT, Nat.reduceLeDiff, Nat.reduceEqDiff, if_true, if_false, Bool.false_eq_true, Bool.not_true, Bool.not_false, and_self, true_and, and_true, List.map_cons, List.map_nil, Option.map_some, sh_int, sh_bool, sh_none, sh_tup, sh_lst, eqv_int, reduceIte, Option.bind_some, Option.bind_none, kitB_ll, kitB_lt, kitB_tt, kitB_tl, kitB_ii, tyD_list, tyD_int, Bool.true_and, Bool.false_and, Bool.and_true, Bool.and_false, Bool.or_true, Bool.true_or, Bool.false_or, Bool.or_false, Bool.and_self, Bool.or_self, e_cAK, List.append_nil, List.nil_append, List.cons_append, e_andB, e_orB, e_andR, e_orR, tyD_tuple, eqv_bool, eqv_none, tyD_bool, tyD_str, tyD_none, kitB_bb, kitB_nb, kitB_bi, kitB_ib, kitB_nl, kitB_nt, beq_self_eq_true, a0, a2, a6, a7, if_pos m6, if_pos m7, i6, i7, r1, r2, g0, g0', h2, g1, ic, lBi, r3, if_pos z1, if_pos z2, if_pos zW, if_pos zL, d1, p1, isNone, sm, em, s1, s2] at hX
        subst hX
        exact ⟨_, _, _, rfl⟩
    · have d1 : decide ((((A ++ R ++ A).length : Nat) : Int) > 255) = false := decide_eq_false (by omega)
      cases f with
      | some wx =>
        obtain ⟨w, x⟩ := wx
        have nn := fault_nice (hfw w x rfl) x
        have t1 : SeqAt.shaped (.tuple [.str w, .int x]) = true := nn.shaped (by decide)
        have t2 : PyData.eqv (.tuple [.str w, .int x]) (.tuple [.str w, .int x]) = true := nn.refl
        have p1 : F__law_told _ = .ok (.d (.tuple [.str w, .int x])) := p1
        have fd : fltD (some (w, x)) = .tuple [.str w, .int x] := rfl
        rw [fd] at hX ⊢
        generalize hE : PyData.tuple [.str w, .int x] = E at *
        have isn : isNone (.d E) = false := by rw [← hE]; rfl
        simp only [e_nil, e_seq, e_fz, e_bk, e_ct, e_ret, e_retN, e_drop, e_set, e_if, e_for, e_cC, e_c2, e_c1, e_cA, e_aN, e_aC, e_cB, e_asB, e_bNot, e_bAnd, e_bOr, e_vAnd, e_vOr, e_vNot, e_vIf, e_bYes, e_iL, e_iT, e_iLb, e_iR, e_gL1, e_gL2, e_gL3, e_gT, e_gLb1, e_gLb2, e_gLb3, e_gLb4, e_nb1, e_nb2, e_bor1, e_bor2, e_bor3, e_bor4, e_arg1, e_arg2, e_arg3, e_arg4, e_putd, e_puto, e_toD1, e_toD2, e_allD0, e_allD1, e_allD2, e_gTupl, e_gList, e_tgnm, e_tgtp, e_tg0, e_tg1, e_sq1, e_sq2, e_sq3, e_sq4, e_sq5, e_qv2, e_qv3, e_qv4, e_qv5, e_data1, e_data2, e_data3, e_okI, e_okB, e_i2, e_sub, e_mul, e_mod, e_div, e_pow, e_lt, e_le, e_gt, e_ge, e_neg, e_addI, e_addS, e_addT, e_addL1, e_addL2, e_addL3, e_addL4, e_addL5, e_addL6, e_addL7, e_addL8, e_addL9, e_eq, e_ne, e_in, e_notIn, e_inT, e_inT2, e_inL1, e_inL2, e_inL3, e_is, e_isNot, e_isN1, e_isN2, e_isN3, e_isN4, e_isN5, e_isN6, e_isN7, e_ixT, e_ixL, e_ixO, e_ixB, e_ixSc, e_lenT, e_lenL, e_lenO, e_lenB, e_lenSc, e_lenS, e_tupT, e_tupL, e_tupO, e_tupB, e_lisT, e_lisL, e_lisO, e_lisB, e_min2, e_max2, e_any, e_all, e_sum, e_sorted, e_rev, e_sl, e_oN, e_isi, e_lc, e_wipe0, e_wipe1, e_iA, e_iAb, e_gAq1, e_gAq2, e_gAq3, e_gAqb1, e_gAqb2, e_gAqb3, e_gAqb4, e_no, e_cCh, e_cChI, e_aug, e_decT, e_decF, e_cDispS, e_cDT, e_cDK, e_cDisp1, e_storeA, e_stR1, e_stR2, e_stR3, e_sd1, e_keyD1, e_keyD2, e_keyTD, e_intsD, e_intsD0, e_borT, e_borT2, e_borK, e_borK2, e_argT, e_argT2, e_argK, e_argK2, e_nbT, e_nbK, e_putT, e_putK, e_gAt1, e_gAt2, e_gAt3, e_gAt4, e_gGetDK, e_gGetDT, e_gIxD, e_gInD, e_gNotInD, e_cGet1, e_cGet2, e_dk1, e_dk2, e_dk3, e_dk4, e_dt1, e_dt2, e_del, atI_zero, e_at1, e_at2, e_at3, e_at4, e_at5, e_at6, e_at7, e_at8, e_at9, e_atm, e_V, e_retV, e_unp, e_app, e_store, e_fzE, oS, rsO_some, Rs.bind_ok, Rs.bind_no, Rs.out_ok, Out.then_nx, Out.then_rt, Out.then_ct, Out.then_bk, fin_rt, fin_nx, List.getElem?_cons_zero, List.getElem?_cons_succ, List.set_cons_succ, List.set_cons_zero, List.length_cons, List.length_nil, Nat.reduceAdd, Nat.reduceLT, Nat.reduceLeDiff, Nat.reduceEqDiff, if_true, if_false, Bool.false_eq_true, Bool.not_true, Bool.not_false, and_self, true_and, and_true, List.map_cons, List.map_nil, Option.map_some, sh_int, sh_bool, sh_none, sh_tup, sh_lst, eqv_int, reduceIte, Option.bind_some, Option.bind_none, kitB_ll, kitB_lt, kitB_tt, kitB_tl, kitB_ii, tyD_list, tyD_int, Bool.true_and, Bool.false_and, Bool.and_true, Bool.and_false, Bool.or_true, Bool.true_or, Bool.false_or, Bool.or_false, Bool.and_self, Bool.or_self, e_cAK, List.append_nil, List.nil_append, List.cons_append, e_andB, e_orB, e_andR, e_orR, tyD_tuple, eqv_bool, eqv_none, tyD_bool, tyD_str, tyD_none, kitB_bb, kitB_nb, kitB_bi, kitB_ib, kitB_nl, kitB_nt, beq_self_eq_true, a0, a2, a6, a7, if_pos m6, if_pos m7, i6, i7, r1, r2, g0, g0', h2, g1, ic, lBi, r3, if_pos z1, if_pos z2, if_pos zW, if_pos zL, d1, p1, isn, t1, t2] at hX
        subst hX
        exact ⟨_, _, _, rfl⟩
      | none =>
        simp only [flR, if_neg c] at p1
        have fd : fltD none = .none := rfl
        rw [fd] at hX ⊢
        simp only [e_nil, e_seq, e_fz, e_bk, e_ct, e_ret, e_retN, e_drop, e_set, e_if, e_for, e_cC, e_c2, e_c1, e_cA, e_aN, e_aC, e_cB, e_asB, e_bNot, e_bAnd, e_bOr, e_vAnd, e_vOr, e_vNot, e_vIf, e_bYes, e_iL, e_iT, e_iLb, e_iR, e_gL1, e_gL2, e_gL3, e_gT, e_gLb1, e_gLb2, e_gLb3, e_gLb4, e_nb1, e_nb2, e_bor1, e_bor2, e_bor3, e_bor4, e_arg1, e_arg2, e_arg3, e_arg4, e_putd, e_puto, e_toD1, e_toD2, e_allD0, e_allD1, e_allD2, e_gTupl, e_gList, e_tgnm, e_tgtp, e_tg0, e_tg1, e_sq1, e_sq2, e_sq3, e_sq4, e_sq5, e_qv2, e_qv3, e_qv4, e_qv5, e_data1, e_data2, e_data3, e_okI, e_okB, e_i2, e_sub, e_mul, e_mod, e_div, e_pow, e_lt, e_le, e_gt, e_ge, e_neg, e_addI, e_addS, e_addT, e_addL1, e_addL2, e_addL3, e_addL4, e_addL5, e_addL6, e_addL7, e_addL8, e_addL9, e_eq, e_ne, e_in, e_notIn, e_inT, e_inT2, e_inL1, e_inL2, e_inL3, e_is, e_isNot, e_isN1, e_isN2, e_isN3, e_isN4, e_isN5, e_isN6, e_isN7, e_ixT, e_ixL, e_ixO, e_ixB, e_ixSc, e_lenT, e_lenL, e_lenO, e_lenB, e_lenSc, e_lenS, e_tupT, e_tupL, e_tupO, e_tupB, e_lisT, e_lisL, e_lisO, e_lisB, e_min2, e_max2, e_any, e_all, e_sum, e_sorted, e_rev, e_sl, e_oN, e_isi, e_lc, e_wipe0, e_wipe1, e_iA, e_iAb, e_gAq1, e_gAq2, e_gAq3, e_gAqb1, e_gAqb2, e_gAqb3, e_gAqb4, e_no, e_cCh, e_cChI, e_aug, e_decT, e_decF, e_cDispS, e_cDT, e_cDK, e_cDisp1, e_storeA, e_stR1, e_stR2, e_stR3, e_sd1, e_keyD1, e_keyD2, e_keyTD, e_intsD, e_intsD0, e_borT, e_borT2, e_borK, e_borK2, e_argT, e_argT2, e_argK, e_argK2, e_nbT, e_nbK, e_putT, e_putK, e_gAt1, e_gAt2, e_gAt3, e_gAt4, e_gGetDK, e_gGetDT, e_gIxD, e_gInD, e_gNotInD, e_cGet1, e_cGet2, e_dk1, e_dk2, e_dk3, e_dk4, e_dt1, e_dt2, e_del, atI_zero, e_at1, e_at2, e_at3, e_at4, e_at5, e_at6, e_at7, e_at8, e_at9, e_atm, e_V, e_retV, e_unp, e_app, e_store, e_fzE, oS, rsO_some, Rs.bind_ok, Rs.bind_no, Rs.out_ok, Out.then_nx, Out.then_rt, Out.then_ct, Out.then_bk, fin_rt, fin_nx, List.getElem?_cons_zero, List.getElem?_cons_succ, List.set_cons_succ, List.set_cons_zero, List.length_cons, List.length_nil, Nat.reduceAdd, Nat.reduceLT, Nat.reduceLeDiff, Nat.reduceEqDiff, if_true, if_false, Bool.false_eq_true, Bool.not_true, Bool.not_false, and_self, true_and, and_true, List.map_cons, List.map_nil, Option.map_some, sh_int, sh_bool, sh_none, sh_tup, sh_lst, eqv_int, reduceIte, Option.bind_some, Option.bind_none, kitB_ll, kitB_lt, kitB_tt, kitB_tl, kitB_ii, tyD_list, tyD_int, Bool.true_and, Bool.false_and, Bool.and_true, Bool.and_false, Bool.or_true, Bool.true_or, Bool.false_or, Bool.or_false, Bool.and_self, Bool.or_self, e_cAK, List.append_nil, List.nil_append, List.cons_append, e_andB, e_orB, e_andR, e_orR, tyD_tuple, eqv_bool, eqv_none, tyD_bool, tyD_str, tyD_none, kitB_bb, kitB_nb, kitB_bi, kitB_ib, kitB_nl, kitB_nt, beq_self_eq_true, a0, a2, a6, a7, if_pos m6, if_pos m7, i6, i7, r1, r2, g0, g0', h2, g1, ic, lBi, r3, if_pos z1, if_pos z2, if_pos zW, if_pos zL, d1, p1, isNone, sm, em, s1, s2] at hX
        subst hX
        exact ⟨_, _, _, rfl⟩
theorem head_ok (ns : List Int) (x : Nat) {d0 d1 d2 d3 d4 c1 n1 c2 n2 : Nat} {DL NL LL : List PyData} {P1 P2 : PyData} {j6 j7 j8 j9 j10 j11 j12 : Option RV} {X : Out} (k0 : (3 : Int) * (x : Int) = ((3 * x : Nat) : Int))
    (f2 : F__law_draw [.sc ns, .d (.int ((3 * x : Nat) : Int)), .d (.list [.int 8, .int 6, .int 8, .int 6, .int 3, .int 2, .int 65, .int 65])] = .ok (.ol DL))
    (a0 : atI DL 0 = some (.int (d0 : Int))) (a1 : atI DL 1 = some (.int (d1 : Int))) (a2 : atI DL 2 = some (.int (d2 : Int))) (a3 : atI DL 3 = some (.int (d3 : Int))) (a4 : atI DL 4 = some (.int (d4 : Int)))
    (i0 : (1 : Int) + (d0 : Int) = (c1 : Int)) (i1 : (1 : Int) + (d1 : Int) = (n1 : Int)) (i2 : (1 : Int) + (d2 : Int) = (c2 : Int)) (i3 : (1 : Int) + (d3 : Int) = (n2 : Int))
    (q1 : F__law_rows [.d (.int (c1 : Int)), .d (.int (n1 : Int)), .d (.int 3)] = .ok (.d P1)) (q2 : F__law_rows [.d (.int (c2 : Int)), .d (.int (n2 : Int)), .d (.int 40)] = .ok (.d P2)) (g1 : gIx (.d P2) (.d (.int 1)) = .ok (.d (.int (n2 : Int))))
    (rep : gRep (.ol [.none]) (.d (.int (n2 : Int))) = .ok (.ol NL)) (hix : ixN NL.length 0 = some 0) (hset : (if d4 = 0 then NL.set 0 (.int (d0 : Int)) else NL) = LL)
    (T1 : L0_t1 [some (.sc ns), some (.d (.int (x : Int))), some (.ol DL), some (.d P1), some (.d P2), some (.ol LL), j6, j7, j8, j9, j10, j11, j12, none] = X) (j2 j3 j4 j5 : Option RV) :
    L0_law [some (.sc ns), some (.d (.int (x : Int))), j2, j3, j4, j5, j6, j7, j8, j9, j10, j11, j12, none] = X := by
  have mulOk : (3 : Int).natAbs < 18446744073709551616 ∨ ((x : Nat) : Int).natAbs < 18446744073709551616 := .inl (by decide)
  have s0 : (sSet 2 (cA (fun rs => if rs.length = 3 then F__law_draw (rs.map RV.arg) else .no) (aC (cV 0) (aC (VL.c2 gMul (cC (.int 3)) (cV 1)) (aC gl8 aN))))) [some (.sc ns), some (.d (.int (x : Int))), j2, j3, j4, j5, j6, j7, j8, j9, j10, j11, j12, none] = .nx [some (.sc ns), some (.d (.int (x : Int))), some (.ol DL), j3, j4, j5, j6, j7, j8, j9, j10, j11, j12, none] := by
    simp only [e_nil, e_seq, e_fz, e_bk, e_ct, e_ret, e_retN, e_drop, e_set, e_if, e_for, e_cC, e_c2, e_c1, e_cA, e_aN, e_aC, e_cB, e_asB, e_bNot, e_bAnd, e_bOr, e_vAnd, e_vOr, e_vNot, e_vIf, e_bYes, e_iL, e_iT, e_iLb, e_iR, e_gL1, e_gL2, e_gL3, e_gT, e_gLb1, e_gLb2, e_gLb3, e_gLb4, e_nb1, e_nb2, e_bor1, e_bor2, e_bor3, e_bor4, e_arg1, e_arg2, e_arg3, e_arg4, e_putd, e_puto, e_toD1, e_toD2, e_allD0, e_allD1, e_allD2, e_gTupl, e_gList, e_tgnm, e_tgtp, e_tg0, e_tg1, e_sq1, e_sq2, e_sq3, e_sq4, e_sq5, e_qv2, e_qv3, e_qv4, e_qv5, e_data1, e_data2, e_data3, e_okI, e_okB, e_i2, e_sub, e_mul, e_mod, e_div, e_pow, e_lt, e_le, e_gt, e_ge, e_neg, e_addI, e_addS, e_addT, e_addL1, e_addL2, e_addL3, e_addL4, e_addL5, e_addL6, e_addL7, e_addL8, e_addL9, e_eq, e_ne, e_in, e_notIn, e_inT, e_inT2, e_inL1, e_inL2, e_inL3, e_is, e_isNot, e_isN1, e_isN2, e_isN3, e_isN4, e_isN5, e_isN6, e_isN7, e_ixT, e_ixL, e_ixO, e_ixB, e_ixSc, e_lenT, e_lenL, e_lenO, e_lenB, e_lenSc, e_lenS, e_tupT, e_tupL, e_tupO, e_tupB, e_lisT, e_lisL, e_lisO, e_lisB, e_min2, e_max2, e_any, e_all, e_sum, e_sorted, e_rev, e_sl, e_oN, e_isi, e_lc, e_wipe0, e_wipe1, e_iA, e_iAb, e_gAq1, e_gAq2, e_gAq3, e_gAqb1, e_gAqb2, e_gAqb3, e_gAqb4, e_no, e_cCh, e_cChI, e_aug, e_decT, e_decF, e_cDispS, e_cDT, e_cDK, e_cDisp1, e_storeA, e_stR1, e_stR2, e_stR3, e_sd1, e_keyD1, e_keyD2, e_keyTD, e_intsD, e_intsD0, e_borT, e_borT2, e_borK, e_borK2, e_argT, e_argT2, e_argK, e_argK2, e_nbT, e_nbK, e_putT, e_putK, e_gAt1, e_gAt2, e_gAt3, e_gAt4, e_gGetDK, e_gGetDT, e_gIxD, e_gInD, e_gNotInD, e_cGet1, e_cGet2, e_dk1, e_dk2, e_dk3, e_dk4, e_dt1, e_dt2, e_del, atI_zero, e_at1, e_at2, e_at3, e_at4, e_at5, e_at6, e_at7, e_at8, e_at9, e_atm, e_V, e_retV, e_unp, e_app, e_store, e_fzE, oS, rsO_some, Rs.bind_ok, Rs.bind_no, Rs.out_ok, Out.then_nx, Out.then_rt, Out.then_ct, Out.then_bk, fin_rt, fin_nx, List.getElem?_cons_zero, List.getElem?_cons_succ, List.set_cons_succ, List.set_cons_zero, List.length_cons, List.length_nil, Nat.reduceAdd, Nat.reduceLT, Nat.reduceLeDiff, Nat.reduceEqDiff, if_true, if_false, Bool.false_eq_true, Bool.not_true, Bool.not_false, and_self, true_and, and_true, List.map_cons, List.map_nil, Option.map_some, sh_int, sh_bool, sh_none, sh_tup, sh_lst, eqv_int, reduceIte, Option.bind_some, Option.bind_none, kitB_ll, kitB_lt, kitB_tt, kitB_tl, kitB_ii, tyD_list, tyD_int, Bool.true_and, Bool.false_and, Bool.and_true, Bool.and_false, Bool.or_true, Bool.true_or, Bool.false_or, Bool.or_false, Bool.and_self, Bool.or_self, e_cAK, List.append_nil, List.nil_append, List.cons_append, e_andB, e_orB, e_andR, e_orR, tyD_tuple, eqv_bool, eqv_none, tyD_bool, tyD_str, tyD_none, kitB_bb, kitB_nb, kitB_bi, kitB_ib, kitB_nl, kitB_nt, beq_self_eq_true, if_pos mulOk, k0, gl8_ok, f2]
  have s1 : (sSet 3 (cA (fun rs => if rs.length = 3 then F__law_rows (rs.map RV.arg) else .no) (aC (VL.c2 gAdd (cC (.int 1)) (VL.c2 gIx (cV 2) (cC (.int 0)))) (aC (VL.c2 gAdd (cC (.int 1)) (VL.c2 gIx (cV 2) (cC (.int 1)))) (aC (cC (.int 3)) aN))))) [some (.sc ns), some (.d (.int (x : Int))), some (.ol DL), j3, j4, j5, j6, j7, j8, j9, j10, j11, j12, none] = .nx [some (.sc ns), some (.d (.int (x : Int))), some (.ol DL), some (.d P1), j4, j5, j6, j7, j8, j9, j10, j11, j12, none] := by
    simp only [e_nil, e_seq, e_fz, e_bk, e_ct, e_ret, e_retN, e_drop, e_set, e_if, e_for, e_cC, e_c2, e_c1, e_cA, e_aN, e_aC, e_cB, e_asB, e_bNot, e_bAnd, e_bOr, e_vAnd, e_vOr, e_vNot, e_vIf, e_bYes, e_iL, e_iT, e_iLb, e_iR, e_gL1, e_gL2, e_gL3, e_gT, e_gLb1, e_gLb2, e_gLb3, e_gLb4, e_nb1, e_nb2, e_bor1, e_bor2, e_bor3, e_bor4, e_arg1, e_arg2, e_arg3, e_arg4, e_putd, e_puto, e_toD1, e_toD2, e_allD0, e_allD1, e_allD2, e_gTupl, e_gList, e_tgnm, e_tgtp, e_tg0, e_tg1, e_sq1, e_sq2, e_sq3, e_sq4, e_sq5, e_qv2, e_qv3, e_qv4, e_qv5, e_data1, e_data2, e_data3, e_okI, e_okB, e_i2, e_sub, e_mul, e_mod, e_div, e_pow, e_lt, e_le, e_gt, e_ge, e_neg, e_addI, e_addS, e_addT, e_addL1, e_addL2, e_addL3, e_addL4, e_addL5, e_addL6, e_addL7, e_addL8, e_addL9, e_eq, e_ne, e_in, e_notIn, e_inT, e_inT2, e_inL1, e_inL2, e_inL3, e_is, e_isNot, e_isN1, e_isN2, e_isN3, e_isN4, e_isN5, e_isN6, e_isN7, e_ixT, e_ixL, e_ixO, e_ixB, e_ixSc, e_lenT, e_lenL, e_lenO, e_lenB, e_lenSc, e_lenS, e_tupT, e_tupL, e_tupO, e_tupB, e_lisT, e_lisL, e_lisO, e_lisB, e_min2, e_max2, e_any, e_all, e_sum, e_sorted, e_rev, e_sl, e_oN, e_isi, e_lc, e_wipe0, e_wipe1, e_iA, e_iAb, e_gAq1, e_gAq2, e_gAq3, e_gAqb1, e_gAqb2, e_gAqb3, e_gAqb4, e_no, e_cCh, e_cChI, e_aug, e_decT, e_decF, e_cDispS, e_cDT, e_cDK, e_cDisp1, e_storeA, e_stR1, e_stR2, e_stR3, e_sd1, e_keyD1, e_keyD2, e_keyTD, e_intsD, e_intsD0, e_borT, e_borT2, e_borK, e_borK2, e_argT, e_argT2, e_argK, e_argK2, e_nbT, e_nbK, e_putT, e_putK, e_gAt1, e_gAt2, e_gAt3, e_gAt4, e_gGetDK, e_gGetDT, e_gIxD, e_gInD, e_gNotInD, e_cGet1, e_cGet2, e_dk1, e_dk2, e_dk3, e_dk4, e_dt1, e_dt2, e_del, atI_zero, e_at1, e_at2, e_at3, e_at4, e_at5, e_at6, e_at7, e_at8, e_at9, e_atm, e_V, e_retV, e_unp, e_app, e_store, e_fzE, oS, rsO_some, Rs.bind_ok, Rs.bind_no, Rs.out_ok, Out.then_nx, Out.then_rt, Out.then_ct, Out.then_bk, fin_rt, fin_nx, List.getElem?_cons_zero, List.getElem?_cons_succ, List.set_cons_succ, List.set_cons_zero, List.length_cons, List.length_nil, Nat.reduceAdd, Nat.reduceLT, Nat.reduceLeDiff, Nat.reduceEqDiff, if_true, if_false, Bool.false_eq_true, Bool.not_true, Bool.not_false, and_self, true_and, and_true, List.map_cons, List.map_nil, Option.map_some, sh_int, sh_bool, sh_none, sh_tup, sh_lst, eqv_int, reduceIte, Option.bind_some, Option.bind_none, kitB_ll, kitB_lt, kitB_tt, kitB_tl, kitB_ii, tyD_list, tyD_int, Bool.true_and, Bool.false_and, Bool.and_true, Bool.and_false, Bool.or_true, Bool.true_or, Bool.false_or, Bool.or_false, Bool.and_self, Bool.or_self, e_cAK, List.append_nil, List.nil_append, List.cons_append, e_andB, e_orB, e_andR, e_orR, tyD_tuple, eqv_bool, eqv_none, tyD_bool, tyD_str, tyD_none, kitB_bb, kitB_nb, kitB_bi, kitB_ib, kitB_nl, kitB_nt, beq_self_eq_true, a0, a1, i0, i1, q1]
  have s2 : (sSet 4 (cA (fun rs => if rs.length = 3 then F__law_rows (rs.map RV.arg) else .no) (aC (VL.c2 gAdd (cC (.int 1)) (VL.c2 gIx (cV 2) (cC (.int 2)))) (aC (VL.c2 gAdd (cC (.int 1)) (VL.c2 gIx (cV 2) (cC (.int 3)))) (aC (cC (.int 40)) aN))))) [some (.sc ns), some (.d (.int (x : Int))), some (.ol DL), some (.d P1), j4, j5, j6, j7, j8, j9, j10, j11, j12, none] = .nx [some (.sc ns), some (.d (.int (x : Int))), some (.ol DL), some (.d P1), some (.d P2), j5, j6, j7, j8, j9, j10, j11, j12, none] := by
    simp only [e_nil, e_seq, e_fz, e_bk, e_ct, e_ret, e_retN, e_drop, e_set, e_if, e_for, e_cC, e_c2, e_c1, e_cA, e_aN, e_aC, e_cB, e_asB, e_bNot, e_bAnd, e_bOr, e_vAnd, e_vOr, e_vNot, e_vIf, e_bYes, e_iL, e_iT, e_iLb, e_iR, e_gL1, e_gL2, e_gL3, e_gT, e_gLb1, e_gLb2, e_gLb3, e_gLb4, e_nb1, e_nb2, e_bor1, e_bor2, e_bor3, e_bor4, e_arg1, e_arg2, e_arg3, e_arg4, e_putd, e_puto, e_toD1, e_toD2, e_allD0, e_allD1, e_allD2, e_gTupl, e_gList, e_tgnm, e_tgtp, e_tg0, e_tg1, e_sq1, e_sq2, e_sq3, e_sq4, e_sq5, e_qv2, e_qv3, e_qv4, e_qv5, e_data1, e_data2, e_data3, e_okI, e_okB, e_i2, e_sub, e_mul, e_mod, e_div, e_pow, e_lt, e_le, e_gt, e_ge, e_neg, e_addI, e_addS, e_addT, e_addL1, e_addL2, e_addL3, e_addL4, e_addL5, e_addL6, e_addL7, e_addL8, e_addL9, e_eq, e_ne, e_in, e_notIn, e_inT, e_inT2, e_inL1, e_inL2, e_inL3, e_is, e_isNot, e_isN1, e_isN2, e_isN3, e_isN4, e_isN5, e_isN6, e_isN7, e_ixT, e_ixL, e_ixO, e_ixB, e_ixSc, e_lenT, e_lenL, e_lenO, e_lenB, e_lenSc, e_lenS, e_tupT, e_tupL, e_tupO, e_tupB, e_lisT, e_lisL, e_lisO, e_lisB, e_min2, e_max2, e_any, e_all, e_sum, e_sorted, e_rev, e_sl, e_oN, e_isi, e_lc, e_wipe0, e_wipe1, e_iA, e_iAb, e_gAq1, e_gAq2, e_gAq3, e_gAqb1, e_gAqb2, e_gAqb3, e_gAqb4, e_no, e_cCh, e_cChI, e_aug, e_decT, e_decF, e_cDispS, e_cDT, e_cDK, e_cDisp1, e_storeA, e_stR1, e_stR2, e_stR3, e_sd1, e_keyD1, e_keyD2, e_keyTD, e_intsD, e_intsD0, e_borT, e_borT2, e_borK, e_borK2, e_argT, e_argT2, e_argK, e_argK2, e_nbT, e_nbK, e_putT, e_putK, e_gAt1, e_gAt2, e_gAt3, e_gAt4, e_gGetDK, e_gGetDT, e_gIxD, e_gInD, e_gNotInD, e_cGet1, e_cGet2, e_dk1, e_dk2, e_dk3, e_dk4, e_dt1, e_dt2, e_del, atI_zero, e_at1, e_at2, e_at3, e_at4, e_at5, e_at6, e_at7, e_at8, e_at9, e_atm, e_V, e_retV, e_unp, e_app, e_store, e_fzE, oS, rsO_some, Rs.bind_ok, Rs.bind_no, Rs.out_ok, Out.then_nx, Out.then_rt, Out.then_ct, Out.then_bk, fin_rt, fin_nx, List.getElem?_cons_zero, List.getElem?_cons_succ, List.set_cons_succ, List.set_cons_zero, List.length_cons, List.length_nil, Nat.reduceAdd, Nat.reduceLT, Nat.reduceLeDiff, Nat.reduceEqDiff, if_true, if_false, Bool.false_eq_true, Bool.not_true, Bool.not_false, and_self, true_and, and_true, List.map_cons, List.map_nil, Option.map_some, sh_int, sh_bool, sh_none, sh_tup, sh_lst, eqv_int, reduceIte, Option.bind_some, Option.bind_none, kitB_ll, kitB_lt, kitB_tt, kitB_tl, kitB_ii, tyD_list, tyD_int, Bool.true_and, Bool.false_and, Bool.and_true, Bool.and_false, Bool.or_true, Bool.true_or, Bool.false_or, Bool.or_false, Bool.and_self, Bool.or_self, e_cAK, List.append_nil, List.nil_append, List.cons_append, e_andB, e_orB, e_andR, e_orR, tyD_tuple, eqv_bool, eqv_none, tyD_bool, tyD_str, tyD_none, kitB_bb, kitB_nb, kitB_bi, kitB_ib, kitB_nl, kitB_nt, beq_self_eq_true, a2, a3, i2, i3, q2]
  have s3 : (sSet 5 (VL.c2 gRep (cA gList (aC (cC .none) aN)) (VL.c2 gIx (cV 4) (cC (.int 1))))) [some (.sc ns), some (.d (.int (x : Int))), some (.ol DL), some (.d P1), some (.d P2), j5, j6, j7, j8, j9, j10, j11, j12, none] = .nx [some (.sc ns), some (.d (.int (x : Int))), some (.ol DL), some (.d P1), some (.d P2), some (.ol NL), j6, j7, j8, j9, j10, j11, j12, none] := by
    simp only [e_nil, e_seq, e_fz, e_bk, e_ct, e_ret, e_retN, e_drop, e_set, e_if, e_for, e_cC, e_c2, e_c1, e_cA, e_aN, e_aC, e_cB, e_asB, e_bNot, e_bAnd, e_bOr, e_vAnd, e_vOr, e_vNot, e_vIf, e_bYes, e_iL, e_iT, e_iLb, e_iR, e_gL1, e_gL2, e_gL3, e_gT, e_gLb1, e_gLb2, e_gLb3, e_gLb4, e_nb1, e_nb2, e_bor1, e_bor2, e_bor3, e_bor4, e_arg1, e_arg2, e_arg3, e_arg4, e_putd, e_puto, e_toD1, e_toD2, e_allD0, e_allD1, e_allD2, e_gTupl, e_gList, e_tgnm, e_tgtp, e_tg0, e_tg1, e_sq1, e_sq2, e_sq3, e_sq4, e_sq5, e_qv2, e_qv3, e_qv4, e_qv5, e_data1, e_data2, e_data3, e_okI, e_okB, e_i2, e_sub, e_mul, e_mod, e_div, e_pow, e_lt, e_le, e_gt, e_ge, e_neg, e_addI, e_addS, e_addT, e_addL1, e_addL2, e_addL3, e_addL4, e_addL5, e_addL6, e_addL7, e_addL8, e_addL9, e_eq, e_ne, e_in, e_notIn, e_inT, e_inT2, e_inL1, e_inL2, e_inL3, e_is, e_isNot, e_isN1, e_isN2, e_isN3, e_isN4, e_isN5, e_isN6, e_isN7, e_ixT, e_ixL, e_ixO, e_ixB, e_ixSc, e_lenT, e_lenL, e_lenO, e_lenB, e_lenSc, e_lenS, e_tupT, e_tupL, e_tupO, e_tupB, e_lisT, e_lisL, e_lisO, e_lisB, e_min2, e_max2, e_any, e_all, e_sum, e_sorted, e_rev, e_sl, e_oN, e_isi, e_lc, e_wipe0, e_wipe1, e_iA, e_iAb, e_gAq1, e_gAq2, e_gAq3, e_gAqb1, e_gAqb2, e_gAqb3, e_gAqb4, e_no, e_cCh, e_cChI, e_aug, e_decT, e_decF, e_cDispS, e_cDT, e_cDK, e_cDisp1, e_storeA, e_stR1, e_stR2, e_stR3, e_sd1, e_keyD1, e_keyD2, e_keyTD, e_intsD, e_intsD0, e_borT, e_borT2, e_borK, e_borK2, e_argT, e_argT2, e_argK, e_argK2, e_nbT, e_nbK, e_putT, e_putK, e_gAt1, e_gAt2, e_gAt3, e_gAt4, e_gGetDK, e_gGetDT, e_gIxD, e_gInD, e_gNotInD, e_cGet1, e_cGet2, e_dk1, e_dk2, e_dk3, e_dk4, e_dt1, e_dt2, e_del, atI_zero, e_at1, e_at2, e_at3, e_at4, e_at5, e_at6, e_at7, e_at8, e_at9, e_atm, e_V, e_retV, e_unp, e_app, e_store, e_fzE, oS, rsO_some, Rs.bind_ok, Rs.bind_no, Rs.out_ok, Out.then_nx, Out.then_rt, Out.then_ct, Out.then_bk, fin_rt, fin_nx, List.getElem?_cons_zero, List.getElem?_cons_succ, List.set_cons_succ, List.set_cons_zero, List.length_cons, List.length_nil, Nat.reduceAdd, Nat.reduceLT, Nat.reduceLeDiff, Nat.reduceEqDiff, if_true, if_false, Bool.false_eq_true, Bool.not_true, Bool.not_false, and_self, true_and, and_true, List.map_cons, List.map_nil, Option.map_some, sh_int, sh_bool, sh_none, sh_tup, sh_lst, eqv_int, reduceIte, Option.bind_some, Option.bind_none, kitB_ll, kitB_lt, kitB_tt, kitB_tl, kitB_ii, tyD_list, tyD_int, Bool.true_and, Bool.false_and, Bool.and_true, Bool.and_false, Bool.or_true, Bool.true_or, Bool.false_or, Bool.or_false, Bool.and_self, Bool.or_self, e_cAK, List.append_nil, List.nil_append, List.cons_append, e_andB, e_orB, e_andR, e_orR, tyD_tuple, eqv_bool, eqv_none, tyD_bool, tyD_str, tyD_none, kitB_bb, kitB_nb, kitB_bi, kitB_ib, kitB_nl, kitB_nt, beq_self_eq_true, g1, rep]
  have s4 : (sIf (cB (VL.c2 gEq (VL.c2 gIx (cV 2) (cC (.int 4))) (cC (.int 0)))) (sStore 5 (cC (.int 0)) (VL.c2 gIx (cV 2) (cC (.int 0)))) sNil) [some (.sc ns), some (.d (.int (x : Int))), some (.ol DL), some (.d P1), some (.d P2), some (.ol NL), j6, j7, j8, j9, j10, j11, j12, none] = .nx [some (.sc ns), some (.d (.int (x : Int))), some (.ol DL), some (.d P1), some (.d P2), some (.ol LL), j6, j7, j8, j9, j10, j11, j12, none] := by
    by_cases c : d4 = 0
    · have dd : decide ((d4 : Int) = 0) = true := decide_eq_true (by omega)
      rw [if_pos c] at hset
      simp only [e_nil, e_seq, e_fz, e_bk, e_ct, e_ret, e_retN, e_drop, e_set, e_if, e_for, e_cC, e_c2, e_c1, e_cA, e_aN, e_aC, e_cB, e_asB, e_bNot, e_bAnd, e_bOr, e_vAnd, e_vOr, e_vNot, e_vIf, e_bYes, e_iL, e_iT, e_iLb, e_iR, e_gL1, e_gL2, e_gL3, e_gT, e_gLb1, e_gLb2, e_gLb3, e_gLb4, e_nb1, e_nb2, e_bor1, e_bor2, e_bor3, e_bor4, e_arg1, e_arg2, e_arg3, e_arg4, e_putd, e_puto, e_toD1, e_toD2, e_allD0, e_allD1, e_allD2, e_gTupl, e_gList, e_tgnm, e_tgtp, e_tg0, e_tg1, e_sq1, e_sq2, e_sq3, e_sq4, e_sq5, e_qv2, e_qv3, e_qv4, e_qv5, e_data1, e_data2, e_data3, e_okI, e_okB, e_i2, e_sub, e_mul, e_mod, e_div, e_pow, e_lt, e_le, e_gt, e_ge, e_neg, e_addI, e_addS, e_addT, e_addL1, e_addL2, e_addL3, e_addL4, e_addL5, e_addL6, e_addL7, e_addL8, e_addL9, e_eq, e_ne, e_in, e_notIn, e_inT, e_inT2, e_inL1, e_inL2, e_inL3, e_is, e_isNot, e_isN1, e_isN2, e_isN3, e_isN4, e_isN5, e_isN6, e_isN7, e_ixT, e_ixL, e_ixO, e_ixB, e_ixSc, e_lenT, e_lenL, e_lenO, e_lenB, e_lenSc, e_lenS, e_tupT, e_tupL, e_tupO, e_tupB, e_lisT, e_lisL, e_lisO, e_lisB, e_min2, e_max2, e_any, e_all, e_sum, e_sorted, e_rev, e_sl, e_oN, e_isi, e_lc, e_wipe0, e_wipe1, e_iA, e_iAb, e_gAq1, e_gAq2, e_gAq3, e_gAqb1, e_gAqb2, e_gAqb3, e_gAqb4, e_no, e_cCh, e_cChI, e_aug, e_decT, e_decF, e_cDispS, e_cDT, e_cDK, e_cDisp1, e_storeA, e_stR1, e_stR2, e_stR3, e_sd1, e_keyD1, e_keyD2, e_keyTD, e_intsD, e_intsD0, e_borT, e_borT2, e_borK, e_borK2, e_argT, e_argT2, e_argK, e_argK2, e_nbT, e_nbK, e_putT, e_putK, e_gAt1, e_gAt2, e_gAt3, e_gAt4, e_gGetDK, e_gGetDT, e_gIxD, e_gInD, e_gNotInD, e_cGet1, e_cGet2, e_dk1, e_dk2, e_dk3, e_dk4, e_dt1, e_dt2, e_del, atI_zero, e_at1, e_at2, e_at3, e_at4, e_at5, e_at6, e_at7, e_at8, e_at9, e_atm, e_V, e_retV, e_unp, e_app, e_store, e_fzE, oS, rsO_some, Rs.bind_ok, Rs.bind_no, Rs.out_ok, Out.then_nx, Out.then_rt, Out.then_ct, Out.then_bk, fin_rt, fin_nx, List.getElem?_cons_zero, List.getElem?_cons_succ, List.set_cons_succ, List.set_cons_zero, List.length_cons, List.length_nil, Nat.reduceAdd, Nat.reduceLT, Nat.reduceLeDiff, Nat.reduceEqDiff, if_true, if_false, Bool.false_eq_true, Bool.not_true, Bool.not_false, and_self, true_and, and_true, List.map_cons, List.map_nil, Option.map_some, sh_int, sh_bool, sh_none, sh_tup, sh_lst, eqv_int, reduceIte, Option.bind_some, Option.bind_none, kitB_ll, kitB_lt, kitB_tt, kitB_tl, kitB_ii, tyD_list, tyD_int, Bool.true_and, Bool.false_and, Bool.and_true, Bool.and_false, Bool.or_true, Bool.true_or, Bool.false_or, Bool.or_false, Bool.and_self, Bool.or_self, e_cAK, List.append_nil, List.nil_append, List.cons_append, e_andB, e_orB, e_andR, e_orR, tyD_tuple, eqv_bool, eqv_none, tyD_bool, tyD_str, tyD_none, kitB_bb, kitB_nb, kitB_bi, kitB_ib, kitB_nl, kitB_nt, beq_self_eq_true, a4, dd, a0, e_store, hix, RV.toD, hset]
    · have dd : decide ((d4 : Int) = 0) = false := decide_eq_false (by omega)
      rw [if_neg c] at hset
      simp only [e_nil, e_seq, e_fz, e_bk, e_ct, e_ret, e_retN, e_drop, e_set, e_if, e_for, e_cC, e_c2, e_c1, e_cA, e_aN, e_aC, e_cB, e_asB, e_bNot, e_bAnd, e_bOr, e_vAnd, e_vOr, e_vNot, e_vIf, e_bYes, e_iL, e_iT, e_iLb, e_iR, e_gL1, e_gL2, e_gL3, e_gT, e_gLb1, e_gLb2, e_gLb3, e_gLb4, e_nb1, e_nb2, e_bor1, e_bor2, e_bor3, e_bor4, e_arg1, e_arg2, e_arg3, e_arg4, e_putd, e_puto, e_toD1, e_toD2, e_allD0, e_allD1, e_allD2, e_gTupl, e_gList, e_tgnm, e_tgtp, e_tg0, e_tg1, e_sq1, e_sq2, e_sq3, e_sq4, e_sq5, e_qv2, e_qv3, e_qv4, e_qv5, e_data1, e_data2, e_data3, e_okI, e_okB, e_i2, e_sub, e_mul, e_mod, e_div, e_pow, e_lt, e_le, e_gt, e_ge, e_neg, e_addI, e_addS, e_addT, e_addL1, e_addL2, e_addL3, e_addL4, e_addL5, e_addL6, e_addL7, e_addL8, e_addL9, e_eq, e_ne, e_in, e_notIn, e_inT, e_inT2, e_inL1, e_inL2, e_inL3, e_is, e_isNot, e_isN1, e_isN2, e_isN3, e_isN4, e_isN5, e_isN6, e_isN7, e_ixT, e_ixL, e_ixO, e_ixB, e_ixSc, e_lenT, e_lenL, e_lenO, e_lenB, e_lenSc, e_lenS, e_tupT, e_tupL, e_tupO, e_tupB, e_lisT, e_lisL, e_lisO, e_lisB, e_min2, e_max2, e_any, e_all, e_sum, e_sorted, e_rev, e_sl, e_oN, e_isi, e_lc, e_wipe0, e_wipe1, e_iA, e_iAb, e_gAq1, e_gAq2, e_gAq3, e_gAqb1, e_gAqb2, e_gAqb3, e_gAqb4, e_no, e_cCh, e_cChI, e_aug, e_decT, e_decF, e_cDispS, e_cDT, e_cDK, e_cDisp1, e_storeA, e_stR1, e_stR2, e_stR3, e_sd1, e_keyD1, e_keyD2, e_keyTD, e_intsD, e_intsD0, e_borT, e_borT2, e_borK, e_borK2, e_argT, e_argT2, e_argK, e_argK2, e_nbT, e_nbK, e_putT, e_putK, e_gAt1, e_gAt2, e_gAt3, e_gAt4, e_gGetDK, e_gGetDT, e_gIxD, e_gInD, e_gNotInD, e_cGet1, e_cGet2, e_dk1, e_dk2, e_dk3, e_dk4, e_dt1, e_dt2, e_del, atI_zero, e_at1, e_at2, e_at3, e_at4, e_at5, e_at6, e_at7, e_at8, e_at9, e_atm, e_V, e_retV, e_unp, e_app, e_store, e_fzE, oS, rsO_some, Rs.bind_ok, Rs.bind_no, Rs.out_ok, Out.then_nx, Out.then_rt, Out.then_ct, Out.then_bk, fin_rt, fin_nx, List.getElem?_cons_zero, List.getElem?_cons_succ, List.set_cons_succ, List.set_cons_zero, List.length_cons, List.length_nil, Nat.reduceAdd, Nat.reduceLT, Nat.reduceLeDiff, Nat.reduceEqDiff, if_true, if_false, Bool.false_eq_true, Bool.not_true, Bool.not_false, and_self, true_and, and_true, List.map_cons, List.map_nil, Option.map_some, sh_int, sh_bool, sh_none, sh_tup, sh_lst, eqv_int, reduceIte, Option.bind_some, Option.bind_none, kitB_ll, kitB_lt, kitB_tt, kitB_tl, kitB_ii, tyD_list, tyD_int, Bool.true_and, Bool.false_and, Bool.and_true, Bool.and_false, Bool.or_true, Bool.true_or, Bool.false_or, Bool.or_false, Bool.and_self, Bool.or_self, e_cAK, List.append_nil, List.nil_append, List.cons_append, e_andB, e_orB, e_andR, e_orR, tyD_tuple, eqv_bool, eqv_none, tyD_bool, tyD_str, tyD_none, kitB_bb, kitB_nb, kitB_bi, kitB_ib, kitB_nl, kitB_nt, beq_self_eq_true, a4, dd, hset]
  rw [L0_split, e_seq, s0, Out.then_nx, e_seq, s1, Out.then_nx, e_seq, s2, Out.then_nx, e_seq, s3, Out.then_nx, e_seq, s4, Out.then_nx]
  exact T1
theorem law_holds : ∀ ns : List Int, ns.length ≤ 63 → F_law [.sc ns] = .ok (.d (.bool true)) := by
  intro ns hns
  obtain ⟨K, hK, hr⟩ := turns2 ns hns 4 3 (by omega) (by omega) (by omega) (by omega) [some (.sc ns), none, none, none, none, none, none, none, none, none, none, none, none, none] rfl
  obtain ⟨env', e1, j1, j2, j3, j4, j5, j6, j7, j8, j9, j10, j11, j12, rfl⟩ := loopF_ex (tg := .nm 1) (f := L0_law) (fun i env => ∃ j1 j2 j3 j4 j5 j6 j7 j8 j9 j10 j11 j12, env = [some (.sc ns), j1, j2, j3, j4, j5, j6, j7, j8, j9, j10, j11, j12, none]) natI (List.range K) [some (.sc ns), none, none, none, none, none, none, none, none, none, none, none, none, none] (by
    rintro i env x hx ⟨j1, j2, j3, j4, j5, j6, j7, j8, j9, j10, j11, j12, rfl⟩
    obtain ⟨rfl, hi⟩ := range_at hx
    have mulOk : (3 : Int).natAbs < 18446744073709551616 ∨ ((x : Nat) : Int).natAbs < 18446744073709551616 := .inl (by decide)
    have k0 : (3 : Int) * (x : Int) = ((3 * x : Nat) : Int) := by omega
    obtain ⟨nd, f2, hl, hb⟩ := draw_nat ns (3 * x) [8, 6, 8, 6, 3, 2, 65, 65] (by
      intro s hs
      simp only [List.mem_cons, List.not_mem_nil, or_false] at hs
      omega) (by simp)
    obtain ⟨d0, d1, d2, d3, d4, d5, d6, d7, rfl⟩ : ∃ d0 d1 d2 d3 d4 d5 d6 d7, nd = [d0, d1, d2, d3, d4, d5, d6, d7] := by
      match nd, hl with
      | [a, b, c, d, e, f, g, h], _ => exact ⟨a, b, c, d, e, f, g, h, rfl⟩
    have b0 : d0 < 8 := by
      obtain ⟨d, q, b⟩ := hb 0 8 rfl
      rw [show d0 = d from Option.some.inj q]
      exact b
    have b1 : d1 < 6 := by
      obtain ⟨d, q, b⟩ := hb 1 6 rfl
      rw [show d1 = d from Option.some.inj q]
      exact b
    have b2 : d2 < 8 := by
      obtain ⟨d, q, b⟩ := hb 2 8 rfl
      rw [show d2 = d from Option.some.inj q]
      exact b
    have b3 : d3 < 6 := by
      obtain ⟨d, q, b⟩ := hb 3 6 rfl
      rw [show d3 = d from Option.some.inj q]
      exact b
    have b4 : d4 < 3 := by
      obtain ⟨d, q, b⟩ := hb 4 3 rfl
      rw [show d4 = d from Option.some.inj q]
      exact b
    have b5 : d5 < 2 := by
      obtain ⟨d, q, b⟩ := hb 5 2 rfl
      rw [show d5 = d from Option.some.inj q]
      exact b
    have b6 : d6 < 65 := by
      obtain ⟨d, q, b⟩ := hb 6 65 rfl
      rw [show d6 = d from Option.some.inj q]
      exact b
    have b7 : d7 < 65 := by
      obtain ⟨d, q, b⟩ := hb 7 65 rfl
      rw [show d7 = d from Option.some.inj q]
      exact b
    have f2 : F__law_draw [.sc ns, .d (.int ((3 * x : Nat) : Int)), .d (.list [.int 8, .int 6, .int 8, .int 6, .int 3, .int 2, .int 65, .int 65])] = .ok (.ol [.int (d0 : Int), .int (d1 : Int), .int (d2 : Int), .int (d3 : Int), .int (d4 : Int), .int (d5 : Int), .int (d6 : Int), .int (d7 : Int)]) := f2
    obtain ⟨DL, hDL⟩ : ∃ DL : List PyData, DL = [.int (d0 : Int), .int (d1 : Int), .int (d2 : Int), .int (d3 : Int), .int (d4 : Int), .int (d5 : Int), .int (d6 : Int), .int (d7 : Int)] := ⟨_, rfl⟩
    rw [← hDL] at f2
    have a0 : atI DL 0 = some (.int (d0 : Int)) := by rw [hDL]; rfl
    have a1 : atI DL 1 = some (.int (d1 : Int)) := by rw [hDL]; rfl
    have a2 : atI DL 2 = some (.int (d2 : Int)) := by rw [hDL]; rfl
    have a3 : atI DL 3 = some (.int (d3 : Int)) := by rw [hDL]; rfl
    have a4 : atI DL 4 = some (.int (d4 : Int)) := by rw [hDL]; rfl
    have a5 : atI DL 5 = some (.int (d5 : Int)) := by rw [hDL]; rfl
    have a6 : atI DL 6 = some (.int (d6 : Int)) := by rw [hDL]; rfl
    have a7 : atI DL 7 = some (.int (d7 : Int)) := by rw [hDL]; rfl
    -- the programs
    obtain ⟨c1, hc1⟩ : ∃ c1, c1 = 1 + d0 := ⟨_, rfl⟩
    obtain ⟨n1, hn1⟩ : ∃ n1, n1 = 1 + d1 := ⟨_, rfl⟩
    obtain ⟨c2, hc2⟩ : ∃ c2, c2 = 1 + d2 := ⟨_, rfl⟩
    obtain ⟨n2, hn2⟩ : ∃ n2, n2 = 1 + d3 := ⟨_, rfl⟩
    have q1 := rows_ok c1 n1 3 (by omega) (by omega) (by omega) (by omega) (by omega)
    have q2 := rows_ok c2 n2 40 (by omega) (by omega) (by omega) (by omega) (by omega)
    have i0 : (1 : Int) + (d0 : Int) = (c1 : Int) := by omega
    have i1 : (1 : Int) + (d1 : Int) = (n1 : Int) := by omega
    have i2 : (1 : Int) + (d2 : Int) = (c2 : Int) := by omega
    have i3 : (1 : Int) + (d3 : Int) = (n2 : Int) := by omega
    have o1 : c1 - 1 = d0 := by omega
    have o2 : c2 - 1 = d2 := by omega
    rw [o1] at q1
    rw [o2] at q2
    have S1 := rowsS_ok n1 3 c1 (by omega) (by omega)
    have S2 := rowsS_ok n2 40 c2 (by omega) (by omega)
    have L1 := rows_len n1 3 c1
    have L2 := rows_len n2 40 c2
    have rep : gRep (.ol [.none]) (.d (.int (n2 : Int))) = .ok (.ol ((List.replicate n2 (none : Option Nat)).map lkD)) := by
      rw [e_rep rfl (by omega) (by simp; omega), show ((n2 : Nat) : Int).toNat = n2 by omega, repl_none]
    -- the links
    obtain ⟨ls, hls, hlk, hset⟩ : ∃ ls : List (Option Nat), ls.length = n2 ∧ (∀ j, some j ∈ ls → j = d0) ∧ (if d4 = 0 then ((List.replicate n2 (none : Option Nat)).map lkD).set 0 (.int (d0 : Int)) else (List.replicate n2 (none : Option Nat)).map lkD) = ls.map lkD := by
      by_cases c : d4 = 0
      · refine ⟨some d0 :: List.replicate d3 none, by rw [List.length_cons, List.length_replicate]; omega, fun j hj => ?_, ?_⟩
        · rcases List.mem_cons.mp hj with h | h
          · exact Option.some.inj h
          · cases (List.mem_replicate.mp h).2
        · rw [if_pos c, show n2 = d3 + 1 by omega, List.replicate_succ]
          rfl
      · exact ⟨List.replicate n2 none, List.length_replicate .., (fun j hj => by cases (List.mem_replicate.mp hj).2), by rw [if_neg c]⟩
    obtain ⟨keep, hkeep⟩ : ∃ keep : Bool, decide ((d5 : Int) = 1) = keep := ⟨_, rfl⟩
    have hk : ∀ k, some k ∈ ls → k < 100000 := fun k h => by have := hlk k h; omega
    have one2 : ∀ o ∈ [d2], o < (rowsS n2 40 c2).length := fun o h => by rw [L2, List.mem_singleton.mp h]; omega
    have q3 := joined_ok (m := 97) (n := n1) (ss := rowsS n1 3 c1) (os := [d0]) (os2 := [d2]) S2 (by omega) (by omega) (by omega) (by omega) (by omega) hls hk one2 (by simp) (by simp) keep
    have e0' : ∀ d k, endM [] (List.replicate (1 + 2 * k) ((d : Nat) : Int)) = osI [d] := fun d k => again_end _ k
    have q4 := plan_ok (m := 97) (n := n1) (os := [d0]) (os2 := [d2]) S1 S2 (by omega) (by omega) (by omega) (by omega) (by omega) (by omega) hls hk one2 (by simp) (by simp) keep (List.replicate (1 + 2 * d6) (d0 : Int)) (List.replicate (1 + 2 * d7) (d2 : Int)) (.inl rfl) (.inl rfl) (again_good n1 3 c1 d0 (by omega) _ _) (again_good n2 40 c2 d2 (by omega) _ _) (e0' d0 d6) (e0' d2 d7) (by rw [List.length_replicate]; omega) (by rw [List.length_replicate]; omega)
    have fr := fresh (namesM n1 ls) n1 n2 c1 (by omega) c2 (by omega)
    rw [fr] at q3 q4
    have hst : (rowsS n1 3 c1 ++ (List.range c2).map (rowF ((namesM n1 ls).getD (n2 - 1) (.x 0)))).length = c1 + c2 := by rw [List.length_append, rows_len, List.length_map, List.length_range]
    simp only at q3 q4
    rw [if_neg (by rw [hst, L1, L2]; exact fun z => z rfl)] at q4
    obtain ⟨f, hf⟩ : ∃ f, f = faultJ 97 n1 97 [d0] ls (rowsS n1 3 c1 ++ (List.range c2).map (rowF ((namesM n1 ls).getD (n2 - 1) (.x 0)))) := ⟨_, rfl⟩
    rw [← hf] at q3 q4
    have hfw : ∀ w x, f = some (w, x) → PyData.strOk w = true := by
      intro w x h
      rw [hf] at h
      unfold faultJ at h
      rw [if_neg (by simp), wrong_no ls 0 (fun j hj => by rw [hlk j hj]; exact List.mem_singleton_self _)] at h
      simp only at h
      split at h
      · cases h; exact wtmi_ok
      · split at h
        · cases h; exact wtms_ok
        · cases h
    have hf' : f = if 6 < n1 + noneC ls then some (("too many inputs" : Str), (-1 : Int)) else if 8 < c1 + c2 then some (("too many steps" : Str), (-1 : Int)) else none := by
      rw [hf]
      unfold faultJ
      rw [if_neg (by simp), wrong_no ls 0 (fun j hj => by rw [hlk j hj]; exact List.mem_singleton_self _), hst]
    have hMV : movesJ ((List.range c2).map (c1 + ·)) (List.replicate (1 + 2 * d6) (d0 : Int)) (List.replicate (1 + 2 * d7) (d2 : Int)) keep = List.replicate (1 + 2 * d6) (d0 : Int) ++ List.replicate (1 + 2 * d7) ((c1 + d2 : Nat) : Int) ++ (if keep = true then [] else List.replicate (1 + 2 * d6) (d0 : Int)) := by
      unfold movesJ
      rw [List.map_replicate, List.reverse_replicate]
      have : ledP ((List.range c2).map (c1 + ·)) (d2 : Int) = ((c1 + d2 : Nat) : Int) := by
        unfold ledP
        rw [show ((d2 : Nat) : Int).toNat = d2 by omega, List.getD_eq_getElem?_getD, List.getElem?_map, List.getElem?_range (by omega)]
        rfl
      rw [this]
    obtain ⟨MV, hMVe⟩ : ∃ MV, MV = movesJ ((List.range c2).map (c1 + ·)) (List.replicate (1 + 2 * d6) (d0 : Int)) (List.replicate (1 + 2 * d7) (d2 : Int)) keep := ⟨_, rfl⟩
    rw [← hMVe] at q4 hMV
    have t0 := told_0 (e4 := .d (.list [])) q3
    have p1 : F__law_told [.d (.int 1), .d (progD 97 n1 (.tuple ((rowsS n1 3 c1).map Stp.d)) (.tuple ([d0].map natI))), .d (progD 97 n2 (.tuple ((rowsS n2 40 c2).map Stp.d)) (.tuple ([d2].map natI))), .d (.tuple (ls.map lkD)), .d (.list [.list ((List.replicate (1 + 2 * d6) (d0 : Int)).map .int), .list ((List.replicate (1 + 2 * d7) (d2 : Int)).map .int)]), .d (.bool keep)] = flR f (if 255 < MV.length then .ok (.d (.tuple [.str "too many moves", .int (-1)])) else .ok (.ol (MV.map .int))) := by
      cases f with
      | some wx => exact (told_1 q4).2 wx.1 wx.2 rfl
      | none =>
        simp only [flR] at q4 ⊢
        by_cases c : 255 < MV.length
        · rw [if_pos c] at q4 ⊢
          exact (told_1 q4).2 _ _ rfl
        · rw [if_neg c] at q4 ⊢
          exact (told_1 q4).1 _ rfl
    have T2 := t2_ok (P1 := progD 97 n1 (.tuple ((rowsS n1 3 c1).map Stp.d)) (.tuple ([d0].map natI))) (LL := ls.map lkD) (S1 := (rowsS n1 3 c1).map Stp.d) keep f MV b6 b7 hfw (by rw [List.length_map]; omega) hMV a0 a2 a6 a7 rfl (by rw [List.length_map, L1]) p1
    have jd : joinedD 97 n1 ls (rowsS n1 3 c1 ++ (List.range c2).map (rowF ((namesM n1 ls).getD (n2 - 1) (.x 0))), (List.range c2).map (c1 + ·)) [d0] [d2] keep = .tuple [.int 97, .int ((n1 + noneC ls : Nat) : Int), .tuple ((rowsS n1 3 c1 ++ (List.range c2).map (rowF ((namesM n1 ls).getD (n2 - 1) (.x 0)))).map Stp.d), .tuple ((ordM (rowsS n1 3 c1 ++ (List.range c2).map (rowF ((namesM n1 ls).getD (n2 - 1) (.x 0)))).length (outsJ ((List.range c2).map (c1 + ·)) [d0] [d2] keep)).map natI)] := rfl
    rw [jd] at t0
    have T1 := t1_ok (P1 := progD 97 n1 (.tuple ((rowsS n1 3 c1).map Stp.d)) (.tuple ([d0].map natI))) (P2 := progD 97 n2 (.tuple ((rowsS n2 40 c2).map Stp.d)) (.tuple ([d2].map natI))) ls keep f (by omega) rfl hf' a5 hkeep rfl rfl rfl (by rw [List.length_map, L1]) (by rw [List.length_map, L2]) (by rw [List.length_map, hst]) t0
    obtain ⟨j10', j11', j12', T2⟩ := T2 (some (.sc ns)) (some (.d (.int (x : Int)))) (some (.d (.int ((n1 + noneC ls : Nat) : Int)))) (some (.d (flT f (.tuple [.int 97, .int ((n1 + noneC ls : Nat) : Int), .tuple ((rowsS n1 3 c1 ++ (List.range c2).map (rowF ((namesM n1 ls).getD (n2 - 1) (.x 0)))).map Stp.d), .tuple ((ordM (rowsS n1 3 c1 ++ (List.range c2).map (rowF ((namesM n1 ls).getD (n2 - 1) (.x 0)))).length (outsJ ((List.range c2).map (c1 + ·)) [d0] [d2] keep)).map natI)])))) j10 j11 j12
    have T1 := T1 (some (.sc ns)) (some (.d (.int (x : Int)))) j6 j7 j8 j9 j10 j11 j12
    rw [T2] at T1
    have g1 : gIx (.d (progD 97 n2 (.tuple ((rowsS n2 40 c2).map Stp.d)) (.tuple ([d2].map natI)))) (.d (.int 1)) = .ok (.d (.int (n2 : Int))) := rfl
    have hix : ixN ((List.replicate n2 (none : Option Nat)).map lkD).length 0 = some 0 := by
      rw [List.length_map, List.length_replicate]
      exact ixN_nat (i := 0) (by omega)
    have HO := head_ok ns x (d4 := d4) k0 f2 a0 a1 a2 a3 a4 i0 i1 i2 i3 q1 q2 g1 rep hix hset T1 j2 j3 j4 j5
    exact ⟨[some (.sc ns), some (.d (.int (x : Int))), j2, j3, j4, j5, j6, j7, j8, j9, j10, j11, j12, none], rfl, _, .inl HO, _, _, _, _, _, _, _, _, _, _, _, _, rfl⟩) ⟨none, none, none, none, none, none, none, none, none, none, none, none, rfl⟩
  show (sSeq _ _ [some (.sc ns), none, none, none, none, none, none, none, none, none, none, none, none, none]).fin = _
  rw [e_seq, e_for, hr, Rs.out_ok, e1]
  simp only [e_nil, e_seq, e_fz, e_bk, e_ct, e_ret, e_retN, e_drop, e_set, e_if, e_for, e_cC, e_c2, e_c1, e_cA, e_aN, e_aC, e_cB, e_asB, e_bNot, e_bAnd, e_bOr, e_vAnd, e_vOr, e_vNot, e_vIf, e_bYes, e_iL, e_iT, e_iLb, e_iR, e_gL1, e_gL2, e_gL3, e_gT, e_gLb1, e_gLb2, e_gLb3, e_gLb4, e_nb1, e_nb2, e_bor1, e_bor2, e_bor3, e_bor4, e_arg1, e_arg2, e_arg3, e_arg4, e_putd, e_puto, e_toD1, e_toD2, e_allD0, e_allD1, e_allD2, e_gTupl, e_gList, e_tgnm, e_tgtp, e_tg0, e_tg1, e_sq1, e_sq2, e_sq3, e_sq4, e_sq5, e_qv2, e_qv3, e_qv4, e_qv5, e_data1, e_data2, e_data3, e_okI, e_okB, e_i2, e_sub, e_mul, e_mod, e_div, e_pow, e_lt, e_le, e_gt, e_ge, e_neg, e_addI, e_addS, e_addT, e_addL1, e_addL2, e_addL3, e_addL4, e_addL5, e_addL6, e_addL7, e_addL8, e_addL9, e_eq, e_ne, e_in, e_notIn, e_inT, e_inT2, e_inL1, e_inL2, e_inL3, e_is, e_isNot, e_isN1, e_isN2, e_isN3, e_isN4, e_isN5, e_isN6, e_isN7, e_ixT, e_ixL, e_ixO, e_ixB, e_ixSc, e_lenT, e_lenL, e_lenO, e_lenB, e_lenSc, e_lenS, e_tupT, e_tupL, e_tupO, e_tupB, e_lisT, e_lisL, e_lisO, e_lisB, e_min2, e_max2, e_any, e_all, e_sum, e_sorted, e_rev, e_sl, e_oN, e_isi, e_lc, e_wipe0, e_wipe1, e_iA, e_iAb, e_gAq1, e_gAq2, e_gAq3, e_gAqb1, e_gAqb2, e_gAqb3, e_gAqb4, e_no, e_cCh, e_cChI, e_aug, e_decT, e_decF, e_cDispS, e_cDT, e_cDK, e_cDisp1, e_storeA, e_stR1, e_stR2, e_stR3, e_sd1, e_keyD1, e_keyD2, e_keyTD, e_intsD, e_intsD0, e_borT, e_borT2, e_borK, e_borK2, e_argT, e_argT2, e_argK, e_argK2, e_nbT, e_nbK, e_putT, e_putK, e_gAt1, e_gAt2, e_gAt3, e_gAt4, e_gGetDK, e_gGetDT, e_gIxD, e_gInD, e_gNotInD, e_cGet1, e_cGet2, e_dk1, e_dk2, e_dk3, e_dk4, e_dt1, e_dt2, e_del, atI_zero, e_at1, e_at2, e_at3, e_at4, e_at5, e_at6, e_at7, e_at8, e_at9, e_atm, e_V, e_retV, e_unp, e_app, e_store, e_fzE, oS, rsO_some, Rs.bind_ok, Rs.bind_no, Rs.out_ok, Out.then_nx, Out.then_rt, Out.then_ct, Out.then_bk, fin_rt, fin_nx, List.getElem?_cons_zero, List.getElem?_cons_succ, List.set_cons_succ, List.set_cons_zero, List.length_cons, List.length_nil, Nat.reduceAdd, Nat.reduceLT, Nat.reduceLeDiff, Nat.reduceEqDiff, if_true, if_false, Bool.false_eq_true, Bool.not_true, Bool.not_false, and_self, true_and, and_true, List.map_cons, List.map_nil, Option.map_some, sh_int, sh_bool, sh_none, sh_tup, sh_lst, eqv_int, reduceIte, Option.bind_some, Option.bind_none, kitB_ll, kitB_lt, kitB_tt, kitB_tl, kitB_ii, tyD_list, tyD_int, Bool.true_and, Bool.false_and, Bool.and_true, Bool.and_false, Bool.or_true, Bool.true_or, Bool.false_or, Bool.or_false, Bool.and_self, Bool.or_self, e_cAK, List.append_nil, List.nil_append, List.cons_append, e_andB, e_orB, e_andR, e_orR, tyD_tuple, eqv_bool, eqv_none, tyD_bool, tyD_str, tyD_none, kitB_bb, kitB_nb, kitB_bi, kitB_ib, kitB_nl, kitB_nt, beq_self_eq_true]
def topS (i : Nat) : Stmt := PySem.Challenge.pw_tidyback_k31_limits_of_joined_programs.main.body.getD i (.Pass ⟨0, 0, 0, 0⟩)
structure Txt (K : PySem.W.Frag) (mg : Str → Option Value) (ca : Nat → Addr) (a__law_cell a__law_draw a__law_rows a_is_possible a_moved a_walk a_task_of a_check_plan a_check_links a_input_names a_led a_put_together a_joined a_joined_plan a__law_told a_law aX_TidyError aX_PlanError aX_CodeError aX_JoinError aI_PlanError aI_JoinError : Addr) : Prop where
  xg_TidyError : mg "TidyError" = some (.ref aX_TidyError)
  xg_PlanError : mg "PlanError" = some (.ref aX_PlanError)
  xg_CodeError : mg "CodeError" = some (.ref aX_CodeError)
  xg_JoinError : mg "JoinError" = some (.ref aX_JoinError)
  xm_TidyError : ∀ c b, mt_TidyError c = some b → PySem.W.exmOne K (.ref (ca c)) (.ref aX_TidyError) = some b
  xk_JoinError : ∀ c b, tk_JoinError c = some b → IsE K (ca c) ∧ PySem.W.kitOne K (.ref (ca c)) (.ref aX_JoinError) = some b
  xk_PlanError : ∀ c b, tk_PlanError c = some b → IsE K (ca c) ∧ PySem.W.kitOne K (.ref (ca c)) (.ref aX_PlanError) = some b
  xk_CodeError : ∀ c b, tk_CodeError c = some b → IsE K (ca c) ∧ PySem.W.kitOne K (.ref (ca c)) (.ref aX_CodeError) = some b
  xx_place : ∀ c, cs_place c = true → XfC K (ca c) ∧ PySem.W.findIn K (.ref (ca c)) "place" = some none
  xx_what : ∀ c, cs_what c = true → XfC K (ca c) ∧ PySem.W.findIn K (.ref (ca c)) "what" = some none
  xr_PlanError : mg "PlanError" = some (.ref (ca 1))
  xo_PlanError : OexC K (ca 1)
  xi_PlanError : PySem.W.findIn K (.ref (ca 1)) "__init__" = some (some (.ref aI_PlanError))
  xt_PlanError : PySem.W.typeIn K (.ref aI_PlanError) = some (.type "function")
  xn_PlanError_what : PySem.W.findIn K (.ref (ca 1)) "what" = some none
  xn_PlanError_place : PySem.W.findIn K (.ref (ca 1)) "place" = some none
  xr_JoinError : mg "JoinError" = some (.ref (ca 3))
  xo_JoinError : OexC K (ca 3)
  xi_JoinError : PySem.W.findIn K (.ref (ca 3)) "__init__" = some (some (.ref aI_JoinError))
  xt_JoinError : PySem.W.typeIn K (.ref aI_JoinError) = some (.type "function")
  xn_JoinError_what : PySem.W.findIn K (.ref (ca 3)) "what" = some none
  xn_JoinError_place : PySem.W.findIn K (.ref (ca 3)) "place" = some none
  g__law_cell : mg "_law_cell" = some (.ref a__law_cell)
  k__law_cell : PySem.W.keepIn K (.ref a__law_cell) = true
  g__law_draw : mg "_law_draw" = some (.ref a__law_draw)
  k__law_draw : PySem.W.keepIn K (.ref a__law_draw) = true
  g__law_rows : mg "_law_rows" = some (.ref a__law_rows)
  k__law_rows : PySem.W.keepIn K (.ref a__law_rows) = true
  g_is_possible : mg "is_possible" = some (.ref a_is_possible)
  k_is_possible : PySem.W.keepIn K (.ref a_is_possible) = true
  g_moved : mg "moved" = some (.ref a_moved)
  k_moved : PySem.W.keepIn K (.ref a_moved) = true
  g_walk : mg "walk" = some (.ref a_walk)
  k_walk : PySem.W.keepIn K (.ref a_walk) = true
  g_task_of : mg "task_of" = some (.ref a_task_of)
  k_task_of : PySem.W.keepIn K (.ref a_task_of) = true
  g_check_plan : mg "check_plan" = some (.ref a_check_plan)
  k_check_plan : PySem.W.keepIn K (.ref a_check_plan) = true
  g_check_links : mg "check_links" = some (.ref a_check_links)
  k_check_links : PySem.W.keepIn K (.ref a_check_links) = true
  g_input_names : mg "input_names" = some (.ref a_input_names)
  k_input_names : PySem.W.keepIn K (.ref a_input_names) = true
  g_led : mg "led" = some (.ref a_led)
  k_led : PySem.W.keepIn K (.ref a_led) = true
  g_put_together : mg "put_together" = some (.ref a_put_together)
  k_put_together : PySem.W.keepIn K (.ref a_put_together) = true
  g_joined : mg "joined" = some (.ref a_joined)
  k_joined : PySem.W.keepIn K (.ref a_joined) = true
  g_joined_plan : mg "joined_plan" = some (.ref a_joined_plan)
  k_joined_plan : PySem.W.keepIn K (.ref a_joined_plan) = true
  g__law_told : mg "_law_told" = some (.ref a__law_told)
  k__law_told : PySem.W.keepIn K (.ref a__law_told) = true
  g_law : mg "law" = some (.ref a_law)
  k_law : PySem.W.keepIn K (.ref a_law) = true
  z_int : mg "int" = none
  z_isinstance : mg "isinstance" = none
  z_len : mg "len" = none
  z_list : mg "list" = none
  z_max : mg "max" = none
  z_min : mg "min" = none
  z_range : mg "range" = none
  z_set : mg "set" = none
  z_sorted : mg "sorted" = none
  z_str : mg "str" = none
  z_tuple : mg "tuple" = none
  c_INPUTS : ∃ t, mg "INPUTS" = some (.int 6 t)
  c_MOVES : ∃ t, mg "MOVES" = some (.int 255 t)
  c_STEPS : ∃ t, mg "STEPS" = some (.int 8 t)
section
variable {P : Program} {w : World} {K : PySem.W.Frag} {mg : Str → Option Value} {base : Heap} {ca : Nat → Addr} {a__law_cell a__law_draw a__law_rows a_is_possible a_moved a_walk a_task_of a_check_plan a_check_links a_input_names a_led a_put_together a_joined a_joined_plan a__law_told a_law aX_TidyError aX_PlanError aX_CodeError aX_JoinError aI_PlanError aI_JoinError : Addr}
abbrev sI_PlanError : Stmt := (clsBody (topS 2)).getD 0 (.Pass ⟨0, 0, 0, 0⟩)
theorem scI_PlanError : IniS ["self", "what", "place"] ["self", "what", "place"] (defScope sI_PlanError) := ⟨rfl, rfl, rfl, by decide +kernel, rfl, by decide +kernel, by decide +kernel, by decide +kernel, rfl, rfl⟩
abbrev tini_PlanError (K : PySem.W.Frag) : TS := tSeq (tOst K "what" (tVar 0) (tVar 1)) (tOst K "place" (tVar 0) (tVar 2))
theorem okX_PlanError {fd : FuncData} {cc : Addr} {cdv : Value} (I : IniF P K mg (ca 1) aI_PlanError "__init__" "PlanError.__init__" (defArgs sI_PlanError) (defBody sI_PlanError) (defScope sI_PlanError) fd cc cdv) : FnOk P w K mg base (L2.CX P w) 1 aI_PlanError fd ["self", "what", "place"] (spI (ca 1) ["self", "what", "place"] ["self", "what", "place"] (tini_PlanError K)) :=
  init_ok (k := 0) scI_PlanError I rfl rfl (fun _ => rfl) (fun _ => rfl) (fun _ => rfl) (fun _ => rfl) (fun _ => rfl) (fun A outer s H E vs hv => ⟨⟨_, pe_var (i := 1) rfl (Or.inl rfl), te_var (by have z : vs.length = 3 := hv; omega)⟩, (pss_cons (ps_ost (pe_var (i := 0) rfl (Or.inl rfl)) (pe_var (i := 1) rfl (Or.inl rfl))) (pss_one (ps_ost (pe_var (i := 0) rfl (Or.inl rfl)) (pe_var (i := 2) rfl (Or.inl rfl)))))⟩)
abbrev sI_JoinError : Stmt := (clsBody (topS 4)).getD 0 (.Pass ⟨0, 0, 0, 0⟩)
theorem scI_JoinError : IniS ["self", "what", "place"] ["self", "what", "place"] (defScope sI_JoinError) := ⟨rfl, rfl, rfl, by decide +kernel, rfl, by decide +kernel, by decide +kernel, by decide +kernel, rfl, rfl⟩
abbrev tini_JoinError (K : PySem.W.Frag) : TS := tSeq (tOst K "what" (tVar 0) (tVar 1)) (tOst K "place" (tVar 0) (tVar 2))
theorem okX_JoinError {fd : FuncData} {cc : Addr} {cdv : Value} (I : IniF P K mg (ca 3) aI_JoinError "__init__" "JoinError.__init__" (defArgs sI_JoinError) (defBody sI_JoinError) (defScope sI_JoinError) fd cc cdv) : FnOk P w K mg base (L2.CX P w) 1 aI_JoinError fd ["self", "what", "place"] (spI (ca 3) ["self", "what", "place"] ["self", "what", "place"] (tini_JoinError K)) :=
  init_ok (k := 0) scI_JoinError I rfl rfl (fun _ => rfl) (fun _ => rfl) (fun _ => rfl) (fun _ => rfl) (fun _ => rfl) (fun A outer s H E vs hv => ⟨⟨_, pe_var (i := 1) rfl (Or.inl rfl), te_var (by have z : vs.length = 3 := hv; omega)⟩, (pss_cons (ps_ost (pe_var (i := 0) rfl (Or.inl rfl)) (pe_var (i := 1) rfl (Or.inl rfl))) (pss_one (ps_ost (pe_var (i := 0) rfl (Or.inl rfl)) (pe_var (i := 2) rfl (Or.inl rfl)))))⟩)
abbrev s__law_cell : Stmt := topS 23
abbrev n__law_cell : List Str := ["_law_script", "_law_k"]
theorem sc__law_cell : FnScope n__law_cell ["_law_script", "_law_k"] (defScope s__law_cell) := ⟨rfl, rfl, rfl, by decide +kernel, rfl, by decide +kernel, by decide +kernel⟩
theorem ok__law_cell (T : Txt K mg ca a__law_cell a__law_draw a__law_rows a_is_possible a_moved a_walk a_task_of a_check_plan a_check_links a_input_names a_led a_put_together a_joined a_joined_plan a__law_told a_law aX_TidyError aX_PlanError aX_CodeError aX_JoinError aI_PlanError aI_JoinError) {fd : FuncData} (F : Fun K "_law_cell" "_law_cell" s__law_cell a__law_cell fd) : FnOk P w K mg base (L2.CX P w) 1 a__law_cell fd ["_law_script", "_law_k"] (spV K ca 2 F__law_cell) :=
  fn_ok (k := 0) (N := n__law_cell) (body := B__law_cell) F sc__law_cell (fun cdv A outer s H E hr tk hp =>
    (vss_cons (vs_if (vt_cmp op_lt s_lt (vv 1) (ve_callB call_lenA c_len (by rfl) T.z_len (by decide +kernel) (va_cons (vv 0) va_nil)) (nomark _)) (vss_one (vs_ret (ve_ix ix_seq s_ix (vv 0) (vv 1) (fun _ _ => rfl)))) vss_nil)
    (vss_one (vs_ret ve_int))))
abbrev s__law_draw : Stmt := topS 24
abbrev n__law_draw : List Str := ["_law_script", "_law_k", "_law_sizes", "_law_cell_here", "_law_drawn", "_law_size", "_law_mixed", "_law_j"]
theorem sc__law_draw : FnScope n__law_draw ["_law_script", "_law_k", "_law_sizes"] (defScope s__law_draw) := ⟨rfl, rfl, rfl, by decide +kernel, rfl, by decide +kernel, by decide +kernel⟩
theorem ok__law_draw (T : Txt K mg ca a__law_cell a__law_draw a__law_rows a_is_possible a_moved a_walk a_task_of a_check_plan a_check_links a_input_names a_led a_put_together a_joined a_joined_plan a__law_told a_law aX_TidyError aX_PlanError aX_CodeError aX_JoinError aI_PlanError aI_JoinError) {fd__law_cell : FuncData} (G__law_cell : FnOk P w K mg base (L2.CX P w) 1 a__law_cell fd__law_cell ["_law_script", "_law_k"] (spV K ca 2 F__law_cell)) (b__law_cell : Binds K fd__law_cell ["_law_script", "_law_k"] []) {fd : FuncData} (F : Fun K "_law_draw" "_law_draw" s__law_draw a__law_draw fd) : FnOk P w K mg base (L2.CX P w) 2 a__law_draw fd ["_law_script", "_law_k", "_law_sizes"] (spV K ca 3 F__law_draw) :=
  fn_ok (k := 1) (N := n__law_draw) (body := B__law_draw) F sc__law_draw (fun cdv A outer s H E hr tk hp =>
    (vss_cons (vs_set (i := 3) sc__law_draw.nd rfl (Or.inl rfl) (ve_call G__law_cell (hr.mono (by decide)) (by rfl) T.g__law_cell T.k__law_cell b__law_cell tk (va_cons (vv 0) (va_cons (vv 1) va_nil))))
    (vss_cons (vs_if (vt_cmp op_lt s_lt (vv 3) ve_int (nomark _)) (vss_one (vs_set (i := 3) sc__law_draw.nd rfl (Or.inl rfl) (ve_un un_neg s_neg (vv 3)))) vss_nil)
    (vss_cons (vs_set (i := 4) sc__law_draw.nd rfl (Or.inl rfl) (ve_lst va_nil))
    (vss_cons (vs_if (vt_cmp op_ge s_ge (vv 3) (ve_op op_pow s_pow ve_int ve_int) (nomark _)) (vss_cons (vs_set (i := 3) sc__law_draw.nd rfl (Or.inl rfl) (ve_op op_sub s_sub (vv 3) (ve_op op_pow s_pow ve_int ve_int)))
    (vss_cons (vs_for hp rfl (vi_list (vv 2)) (vg_name sc__law_draw.nd rfl (Or.inl rfl)) (vss_cons (vs_app 4 (ve_op op_mod s_mod (vv 3) (vv 5)))
    (vss_one (vs_set (i := 3) sc__law_draw.nd rfl (Or.inl rfl) (ve_op op_fdiv s_div (vv 3) (vv 5))))))
    (vss_one (vs_retv 4)))) vss_nil)
    (vss_cons (vs_set (i := 6) sc__law_draw.nd rfl (Or.inl rfl) (ve_op op_mod s_mod (ve_op op_addA s_add (ve_op op_addA s_add (vv 3) ve_int) (ve_op op_mul s_mul ve_int (vv 1))) ve_int))
    (vss_cons (vs_for hp rfl (vi_range1 (by rfl) T.z_range (va_cons (ve_callB call_lenA c_len (by rfl) T.z_len (by decide +kernel) (va_cons (vv 2) va_nil)) va_nil)) (vg_name sc__law_draw.nd rfl (Or.inl rfl)) (vss_cons (vs_set (i := 6) sc__law_draw.nd rfl (Or.inl rfl) (ve_op op_mod s_mod (ve_op op_addA s_add (ve_op op_addA s_add (ve_op op_mul s_mul (vv 6) ve_int) ve_int) (vv 7)) ve_int))
    (vss_cons (vs_set (i := 6) sc__law_draw.nd rfl (Or.inl rfl) (ve_op op_mod s_mod (ve_op op_addA s_add (ve_op op_mul s_mul (vv 6) ve_int) ve_int) ve_int))
    (vss_one (vs_app 4 (ve_op op_mod s_mod (ve_op op_fdiv s_div (vv 6) ve_int) (ve_ix ix_seq s_ix (vv 2) (vv 7) (fun _ _ => rfl))))))))
    (vss_one (vs_retv 4)))))))))
abbrev s__law_rows : Stmt := topS 25
abbrev n__law_rows : List Str := ["_law_count", "_law_inputs", "_law_last", "_law_steps", "_law_k"]
theorem sc__law_rows : FnScope n__law_rows ["_law_count", "_law_inputs", "_law_last"] (defScope s__law_rows) := ⟨rfl, rfl, rfl, by decide +kernel, rfl, by decide +kernel, by decide +kernel⟩
theorem ok__law_rows (T : Txt K mg ca a__law_cell a__law_draw a__law_rows a_is_possible a_moved a_walk a_task_of a_check_plan a_check_links a_input_names a_led a_put_together a_joined a_joined_plan a__law_told a_law aX_TidyError aX_PlanError aX_CodeError aX_JoinError aI_PlanError aI_JoinError) {fd : FuncData} (F : Fun K "_law_rows" "_law_rows" s__law_rows a__law_rows fd) : FnOk P w K mg base (L2.CX P w) 1 a__law_rows fd ["_law_count", "_law_inputs", "_law_last"] (spV K ca 3 F__law_rows) :=
  fn_ok (k := 0) (N := n__law_rows) (body := B__law_rows) F sc__law_rows (fun cdv A outer s H E hr tk hp =>
    (vss_cons (vs_set (i := 3) sc__law_rows.nd rfl (Or.inl rfl) (ve_lst va_nil))
    (vss_cons (vs_for hp rfl (vi_range1 (by rfl) T.z_range (va_cons (vv 0) va_nil)) (vg_name sc__law_rows.nd rfl (Or.inl rfl)) (vss_one (vs_app 3 (ve_tup (va_cons (ve_ix ix_seq s_ix ve_str (ve_op op_mod s_mod (vv 4) ve_int) (fun _ _ => rfl)) (va_cons (ve_op op_addA s_add ve_str (ve_callTy call_str_int c_str (by rfl) T.z_str (by decide +kernel) (va_cons (ve_op op_sub s_sub (vv 1) ve_int) va_nil))) (va_cons (ve_callTy call_str_int c_str (by rfl) T.z_str (by decide +kernel) (va_cons (ve_op op_addA s_add (vv 2) (vv 4)) va_nil)) va_nil)))))))
    (vss_one (vs_ret (ve_tup (va_cons ve_int (va_cons (vv 1) (va_cons (ve_callTy call_tupN c_tuple (by rfl) T.z_tuple (by decide +kernel) (va_cons (vv 3) va_nil)) (va_cons (ve_tup (va_cons (ve_op op_sub s_sub (vv 0) ve_int) va_nil)) va_nil))))))))))
abbrev s_is_possible : Stmt := topS 11
abbrev n_is_possible : List Str := ["task", "configuration", "move", "step"]
theorem sc_is_possible : FnScope n_is_possible ["task", "configuration", "move"] (defScope s_is_possible) := ⟨rfl, rfl, rfl, by decide +kernel, rfl, by decide +kernel, by decide +kernel⟩
theorem ok_is_possible (T : Txt K mg ca a__law_cell a__law_draw a__law_rows a_is_possible a_moved a_walk a_task_of a_check_plan a_check_links a_input_names a_led a_put_together a_joined a_joined_plan a__law_told a_law aX_TidyError aX_PlanError aX_CodeError aX_JoinError aI_PlanError aI_JoinError) {fd : FuncData} (F : Fun K "is_possible" "is_possible" s_is_possible a_is_possible fd) : FnOk P w K mg base (L2.CX P w) 1 a_is_possible fd ["task", "configuration", "move"] (spV K ca 3 F_is_possible) :=
  fn_ok (k := 0) (N := n_is_possible) (body := B_is_possible) F sc_is_possible (fun cdv A outer s H E hr tk hp =>
    (vss_cons (vs_for hp rfl (vi_any (ve_ix ix_seq s_ix (ve_ix ix_seq s_ix (vv 0) ve_int (fun _ _ => rfl)) (vv 2) (fun _ _ => rfl))) (vg_name sc_is_possible.nd rfl (Or.inl rfl)) (vss_one (vs_if (vt_cmp (op_notInA (hu65 hr)) s_notIn (vv 3) (vv 1) (by rfl)) (vss_one (vs_ret ve_bl)) vss_nil)))
    (vss_one (vs_ret ve_bl))))
abbrev s_moved : Stmt := topS 12
abbrev n_moved : List Str := ["configuration", "move", "step"]
theorem sc_moved : FnScope n_moved ["configuration", "move"] (defScope s_moved) := ⟨rfl, rfl, rfl, by decide +kernel, rfl, by decide +kernel, by decide +kernel⟩
theorem ok_moved (T : Txt K mg ca a__law_cell a__law_draw a__law_rows a_is_possible a_moved a_walk a_task_of a_check_plan a_check_links a_input_names a_led a_put_together a_joined a_joined_plan a__law_told a_law aX_TidyError aX_PlanError aX_CodeError aX_JoinError aI_PlanError aI_JoinError) {fd : FuncData} (F : Fun K "moved" "moved" s_moved a_moved fd) : FnOk P w K mg base (L2.CX P w) 1 a_moved fd ["configuration", "move"] (spV K ca 2 F_moved) :=
  fn_ok (k := 0) (N := n_moved) (body := B_moved) F sc_moved (fun cdv A outer s H E hr tk hp =>
    (vss_cons (vs_if (vt_cmp (op_inA (hu65 hr)) s_in (vv 1) (vv 0) (by rfl)) (vss_one (vs_ret (ve_callTy call_tupN c_tuple (by rfl) T.z_tuple (by decide +kernel) (va_cons (ve_lc (own := [("step", 2)]) rfl sc_moved.nd (vj_any (vv 0)) (blkOk_by (own := [("step", 2)]) (N := n_moved) (sc := defScope s_moved) (by decide +kernel)) (by decide) (fun _ _ _ _ _ => (vg_name sc_moved.nd rfl (Or.inl rfl))) (fun _ _ _ _ _ => (vts_one (vt_cmp (op_neD hr.units) s_ne (vv 2) (vv 1) (nomark _)))) (fun _ _ _ _ _ => (vv 2))) va_nil)))) vss_nil)
    (vss_one (vs_ret (ve_callTy call_tupN c_tuple (by rfl) T.z_tuple (by decide +kernel) (va_cons (ve_callB cr_sortedI c_sorted (by rfl) T.z_sorted (by decide +kernel) (va_cons (ve_op op_addA s_add (ve_callTy call_list_of c_list (by rfl) T.z_list (by decide +kernel) (va_cons (vv 0) va_nil)) (ve_lst (va_cons (vv 1) va_nil))) va_nil)) va_nil))))))
abbrev s_walk : Stmt := topS 13
abbrev n_walk : List Str := ["task", "plan", "start", "configurations", "place"]
theorem sc_walk : FnScope n_walk ["task", "plan", "start"] (defScope s_walk) := ⟨rfl, rfl, rfl, by decide +kernel, rfl, by decide +kernel, by decide +kernel⟩
theorem ok_walk (T : Txt K mg ca a__law_cell a__law_draw a__law_rows a_is_possible a_moved a_walk a_task_of a_check_plan a_check_links a_input_names a_led a_put_together a_joined a_joined_plan a__law_told a_law aX_TidyError aX_PlanError aX_CodeError aX_JoinError aI_PlanError aI_JoinError) {fd_is_possible : FuncData} (G_is_possible : FnOk P w K mg base (L2.CX P w) 1 a_is_possible fd_is_possible ["task", "configuration", "move"] (spV K ca 3 F_is_possible)) (b_is_possible : Binds K fd_is_possible ["task", "configuration", "move"] []) {fd_moved : FuncData} (G_moved : FnOk P w K mg base (L2.CX P w) 1 a_moved fd_moved ["configuration", "move"] (spV K ca 2 F_moved)) (b_moved : Binds K fd_moved ["configuration", "move"] []) {fdX_PlanError : FuncData} (GX_PlanError : FnOk P w K mg base (L2.CX P w) 1 aI_PlanError fdX_PlanError ["self", "what", "place"] (spI (ca 1) ["self", "what", "place"] ["self", "what", "place"] (tini_PlanError K))) (bX_PlanError : Binds K fdX_PlanError ["self", "what", "place"] []) {fd : FuncData} {dl_walk : List (Str × V)} (F : FunD K "walk" "walk" (defArgs s_walk) (defBody s_walk) (defScope s_walk) [] dl_walk a_walk fd) : FnOk P w K mg base (L2.CX P w) 3 a_walk fd ["task", "plan", "start"] (spV K ca 3 F_walk) :=
  fnD_ok (k := 2) (N := n_walk) (body := B_walk) F sc_walk (fun cdv A outer s H E hr tk hp =>
    (vss_cons (vs_set (i := 3) sc_walk.nd rfl (Or.inl rfl) (ve_lst (va_cons (vv 2) va_nil)))
    (vss_cons (vs_for hp rfl (vi_range1 (by rfl) T.z_range (va_cons (ve_callB call_lenA c_len (by rfl) T.z_len (by decide +kernel) (va_cons (vv 1) va_nil)) va_nil)) (vg_name sc_walk.nd rfl (Or.inl rfl)) (vss_cons (vs_if (vt_not (vt_val (ve_call G_is_possible (hr.mono (by decide)) (by rfl) T.g_is_possible T.k_is_possible b_is_possible tk (va_cons (vv 0) (va_cons (ve_ix ix_seq s_ix (vv 3) (ve_un un_neg s_neg ve_int) (fun _ _ => rfl)) (va_cons (ve_ix ix_seq s_ix (vv 1) (vv 4) (fun _ _ => rfl)) va_nil)))))) (vss_one (vs_raise (c := 1) (n := 2) (flds := [("place", 1), ("what", 0)]) T.xo_PlanError T.xi_PlanError T.xt_PlanError GX_PlanError rfl (ini2 (i := 0) (j := 1) T.xo_PlanError T.xn_PlanError_what T.xn_PlanError_place) (hr.mono (by decide)) bX_PlanError tk rfl (by rfl) T.xr_PlanError (va_cons ve_str (va_cons (vv 4) va_nil)))) vss_nil)
    (vss_one (vs_app 3 (ve_call G_moved (hr.mono (by decide)) (by rfl) T.g_moved T.k_moved b_moved tk (va_cons (ve_ix ix_seq s_ix (vv 3) (ve_un un_neg s_neg ve_int) (fun _ _ => rfl)) (va_cons (ve_ix ix_seq s_ix (vv 1) (vv 4) (fun _ _ => rfl)) va_nil)))))))
    (vss_one (vs_retv 3)))))
abbrev s_task_of : Stmt := topS 9
abbrev n_task_of : List Str := ["program", "uses", "_", "left", "right", "used", "operand"]
theorem sc_task_of : FnScope n_task_of ["program"] (defScope s_task_of) := ⟨rfl, rfl, rfl, by decide +kernel, rfl, by decide +kernel, by decide +kernel⟩
theorem ok_task_of (T : Txt K mg ca a__law_cell a__law_draw a__law_rows a_is_possible a_moved a_walk a_task_of a_check_plan a_check_links a_input_names a_led a_put_together a_joined a_joined_plan a__law_told a_law aX_TidyError aX_PlanError aX_CodeError aX_JoinError aI_PlanError aI_JoinError) {fd : FuncData} (F : Fun K "task_of" "task_of" s_task_of a_task_of fd) : FnOk P w K mg base (L2.CX P w) 1 a_task_of fd ["program"] (spV K ca 1 F_task_of) :=
  fn_ok (k := 0) (N := n_task_of) (body := B_task_of) F sc_task_of (fun cdv A outer s H E hr tk hp =>
    (vss_cons (vs_set (i := 1) sc_task_of.nd rfl (Or.inl rfl) (ve_lst va_nil))
    (vss_cons (vs_for hp rfl (vi_any (ve_ix ix_seq s_ix (vv 0) ve_int (fun _ _ => rfl))) (vg_tup rfl (vgs_cons sc_task_of.nd rfl (Or.inl rfl) (vgs_cons sc_task_of.nd rfl (Or.inl rfl) (vgs_cons sc_task_of.nd rfl (Or.inl rfl) vgs_nil)))) (vss_cons (vs_setLc (i := 5) (own := [("operand", 6)]) rfl sc_task_of.nd rfl rfl (sw_true rfl rfl rfl (by decide +kernel)) (vj_tup (ve_tup (va_cons (vv 3) (va_cons (vv 4) va_nil)))) (blkOk_by (own := [("operand", 6)]) (N := n_task_of) (sc := defScope s_task_of) (by decide +kernel)) (by decide) (fun _ _ _ _ _ => (vg_name sc_task_of.nd rfl (Or.inl rfl))) (fun _ _ _ _ _ => (vts_one (vt_cmp (op_eqD hr.units) s_eq (ve_ix ix_seq s_ix (vv 6) ve_int (fun _ _ => rfl)) ve_str (nomark _)))) (fun _ _ _ _ _ => (ve_callTy call_int_str c_int (by rfl) T.z_int (by decide +kernel) (va_cons (ve_sl (vv 6) (vo_some ve_int) vo_none) va_nil))))
    (vss_one (vs_app 1 (ve_callTy call_tupN c_tuple (by rfl) T.z_tuple (by decide +kernel) (va_cons (ve_sortSet rfl (by rfl) T.z_sorted (by rfl) T.z_set (vv 5)) va_nil))))))
    (vss_one (vs_ret (ve_tup (va_cons (ve_callTy call_tupN c_tuple (by rfl) T.z_tuple (by decide +kernel) (va_cons (vv 1) va_nil)) (va_cons (ve_ix ix_seq s_ix (vv 0) ve_int (fun _ _ => rfl)) va_nil))))))))
abbrev s_check_plan : Stmt := topS 20
abbrev n_check_plan : List Str := ["program", "plan"]
theorem sc_check_plan : FnScope n_check_plan ["program", "plan"] (defScope s_check_plan) := ⟨rfl, rfl, rfl, by decide +kernel, rfl, by decide +kernel, by decide +kernel⟩
theorem ok_check_plan (T : Txt K mg ca a__law_cell a__law_draw a__law_rows a_is_possible a_moved a_walk a_task_of a_check_plan a_check_links a_input_names a_led a_put_together a_joined a_joined_plan a__law_told a_law aX_TidyError aX_PlanError aX_CodeError aX_JoinError aI_PlanError aI_JoinError) {fd_walk : FuncData} (G_walk : FnOk P w K mg base (L2.CX P w) 3 a_walk fd_walk ["task", "plan", "start"] (spV K ca 3 F_walk)) (b_walk_0 : DBn K fd_walk ["task", "plan", "start"] [.tuple []]) {fd_task_of : FuncData} (G_task_of : FnOk P w K mg base (L2.CX P w) 1 a_task_of fd_task_of ["program"] (spV K ca 1 F_task_of)) (b_task_of : Binds K fd_task_of ["program"] []) {fdX_PlanError : FuncData} (GX_PlanError : FnOk P w K mg base (L2.CX P w) 1 aI_PlanError fdX_PlanError ["self", "what", "place"] (spI (ca 1) ["self", "what", "place"] ["self", "what", "place"] (tini_PlanError K))) (bX_PlanError : Binds K fdX_PlanError ["self", "what", "place"] []) {fd : FuncData} (F : Fun K "check_plan" "check_plan" s_check_plan a_check_plan fd) : FnOk P w K mg base (L2.CX P w) 4 a_check_plan fd ["program", "plan"] (spV K ca 2 F_check_plan) :=
  fn_ok (k := 3) (N := n_check_plan) (body := B_check_plan) F sc_check_plan (fun cdv A outer s H E hr tk hp =>
    (vss_one (vs_if (vt_cmp (op_neD hr.units) s_ne (ve_ix ix_seq s_ix (ve_callD G_walk (hr.mono (by decide)) (by rfl) T.g_walk T.k_walk b_walk_0 tk (va_cons (ve_call G_task_of (hr.mono (by decide)) (by rfl) T.g_task_of T.k_task_of b_task_of tk (va_cons (vv 0) va_nil)) (va_cons (vv 1) va_nil))) (ve_un un_neg s_neg ve_int) (fun _ _ => rfl)) (ve_ix ix_seq s_ix (vv 0) ve_int (fun _ _ => rfl)) (nomark _)) (vss_one (vs_raise (c := 1) (n := 2) (flds := [("place", 1), ("what", 0)]) T.xo_PlanError T.xi_PlanError T.xt_PlanError GX_PlanError rfl (ini2 (i := 0) (j := 1) T.xo_PlanError T.xn_PlanError_what T.xn_PlanError_place) (hr.mono (by decide)) bX_PlanError tk rfl (by rfl) T.xr_PlanError (va_cons ve_str (va_cons (ve_un un_neg s_neg ve_int) va_nil)))) vss_nil)))
abbrev s_check_links : Stmt := topS 17
abbrev n_check_links : List Str := ["first", "second", "links", "k"]
theorem sc_check_links : FnScope n_check_links ["first", "second", "links"] (defScope s_check_links) := ⟨rfl, rfl, rfl, by decide +kernel, rfl, by decide +kernel, by decide +kernel⟩
theorem ok_check_links (T : Txt K mg ca a__law_cell a__law_draw a__law_rows a_is_possible a_moved a_walk a_task_of a_check_plan a_check_links a_input_names a_led a_put_together a_joined a_joined_plan a__law_told a_law aX_TidyError aX_PlanError aX_CodeError aX_JoinError aI_PlanError aI_JoinError) {fdX_JoinError : FuncData} (GX_JoinError : FnOk P w K mg base (L2.CX P w) 1 aI_JoinError fdX_JoinError ["self", "what", "place"] (spI (ca 3) ["self", "what", "place"] ["self", "what", "place"] (tini_JoinError K))) (bX_JoinError : Binds K fdX_JoinError ["self", "what", "place"] []) {fd : FuncData} (F : Fun K "check_links" "check_links" s_check_links a_check_links fd) : FnOk P w K mg base (L2.CX P w) 3 a_check_links fd ["first", "second", "links"] (spV K ca 3 F_check_links) :=
  fn_ok (k := 2) (N := n_check_links) (body := B_check_links) F sc_check_links (fun cdv A outer s H E hr tk hp =>
    (vss_cons (vs_if (vt_cmp (op_neD hr.units) s_ne (ve_ix ix_seq s_ix (vv 0) ve_int (fun _ _ => rfl)) (ve_ix ix_seq s_ix (vv 1) ve_int (fun _ _ => rfl)) (nomark _)) (vss_one (vs_raise (c := 3) (n := 2) (flds := [("place", 1), ("what", 0)]) T.xo_JoinError T.xi_JoinError T.xt_JoinError GX_JoinError rfl (ini2 (i := 0) (j := 1) T.xo_JoinError T.xn_JoinError_what T.xn_JoinError_place) (hr.mono (by decide)) bX_JoinError tk rfl (by rfl) T.xr_JoinError (va_cons ve_str (va_cons (ve_un un_neg s_neg ve_int) va_nil)))) vss_nil)
    (vss_one (vs_for hp rfl (vi_range1 (by rfl) T.z_range (va_cons (ve_callB call_lenA c_len (by rfl) T.z_len (by decide +kernel) (va_cons (vv 2) va_nil)) va_nil)) (vg_name sc_check_links.nd rfl (Or.inl rfl)) (vss_one (vs_if (vw (vw_and (vt_cmp op_notN s_isNot (ve_ix ix_seq s_ix (vv 2) (vv 3) (fun _ _ => rfl)) ve_non (nomark _)) (vw_and1 (vt_cmp (op_notInA (hu65 hr)) s_notIn (ve_ix ix_seq s_ix (vv 2) (vv 3) (fun _ _ => rfl)) (ve_ix ix_seq s_ix (vv 0) ve_int (fun _ _ => rfl)) (by rfl))))) (vss_one (vs_raise (c := 3) (n := 2) (flds := [("place", 1), ("what", 0)]) T.xo_JoinError T.xi_JoinError T.xt_JoinError GX_JoinError rfl (ini2 (i := 0) (j := 1) T.xo_JoinError T.xn_JoinError_what T.xn_JoinError_place) (hr.mono (by decide)) bX_JoinError tk rfl (by rfl) T.xr_JoinError (va_cons ve_str (va_cons (vv 3) va_nil)))) vss_nil))))))
abbrev s_input_names : Stmt := topS 15
abbrev n_input_names : List Str := ["first", "links", "names", "many", "link"]
theorem sc_input_names : FnScope n_input_names ["first", "links"] (defScope s_input_names) := ⟨rfl, rfl, rfl, by decide +kernel, rfl, by decide +kernel, by decide +kernel⟩
theorem ok_input_names (T : Txt K mg ca a__law_cell a__law_draw a__law_rows a_is_possible a_moved a_walk a_task_of a_check_plan a_check_links a_input_names a_led a_put_together a_joined a_joined_plan a__law_told a_law aX_TidyError aX_PlanError aX_CodeError aX_JoinError aI_PlanError aI_JoinError) {fd : FuncData} (F : Fun K "input_names" "input_names" s_input_names a_input_names fd) : FnOk P w K mg base (L2.CX P w) 1 a_input_names fd ["first", "links"] (spV K ca 2 F_input_names) :=
  fn_ok (k := 0) (N := n_input_names) (body := B_input_names) F sc_input_names (fun cdv A outer s H E hr tk hp =>
    (vss_cons (vs_set (i := 2) sc_input_names.nd rfl (Or.inl rfl) (ve_lst va_nil))
    (vss_cons (vs_set (i := 3) sc_input_names.nd rfl (Or.inl rfl) (ve_ix ix_seq s_ix (vv 0) ve_int (fun _ _ => rfl)))
    (vss_cons (vs_for hp rfl (vi_any (vv 1)) (vg_name sc_input_names.nd rfl (Or.inl rfl)) (vss_one (vs_if (vt_cmp op_isN s_is (vv 4) ve_non (nomark _)) (vss_cons (vs_app 2 (ve_op op_addA s_add ve_str (ve_callTy call_str_int c_str (by rfl) T.z_str (by decide +kernel) (va_cons (vv 3) va_nil))))
    (vss_one (vs_set (i := 3) sc_input_names.nd rfl (Or.inl rfl) (ve_op op_addA s_add (vv 3) ve_int)))) (vss_one (vs_app 2 (ve_op op_addA s_add ve_str (ve_callTy call_str_int c_str (by rfl) T.z_str (by decide +kernel) (va_cons (vv 4) va_nil))))))))
    (vss_one (vs_retv 2))))))
abbrev s_led : Stmt := topS 16
abbrev n_led : List Str := ["operand", "names", "places"]
theorem sc_led : FnScope n_led ["operand", "names", "places"] (defScope s_led) := ⟨rfl, rfl, rfl, by decide +kernel, rfl, by decide +kernel, by decide +kernel⟩
theorem ok_led (T : Txt K mg ca a__law_cell a__law_draw a__law_rows a_is_possible a_moved a_walk a_task_of a_check_plan a_check_links a_input_names a_led a_put_together a_joined a_joined_plan a__law_told a_law aX_TidyError aX_PlanError aX_CodeError aX_JoinError aI_PlanError aI_JoinError) {fd : FuncData} (F : Fun K "led" "led" s_led a_led fd) : FnOk P w K mg base (L2.CX P w) 1 a_led fd ["operand", "names", "places"] (spV K ca 3 F_led) :=
  fn_ok (k := 0) (N := n_led) (body := B_led) F sc_led (fun cdv A outer s H E hr tk hp =>
    (vss_cons (vs_if (vt_cmp (op_eqD hr.units) s_eq (ve_ix ix_seq s_ix (vv 0) ve_int (fun _ _ => rfl)) ve_str (nomark _)) (vss_one (vs_ret (ve_ix ix_seq s_ix (vv 1) (ve_callTy call_int_str c_int (by rfl) T.z_int (by decide +kernel) (va_cons (ve_sl (vv 0) (vo_some ve_int) vo_none) va_nil)) (fun _ _ => rfl)))) vss_nil)
    (vss_cons (vs_if (vt_cmp (op_eqD hr.units) s_eq (ve_ix ix_seq s_ix (vv 0) ve_int (fun _ _ => rfl)) ve_str (nomark _)) (vss_one (vs_ret (ve_op op_addA s_add ve_str (ve_callTy call_str_int c_str (by rfl) T.z_str (by decide +kernel) (va_cons (ve_ix ix_seq s_ix (vv 2) (ve_callTy call_int_str c_int (by rfl) T.z_int (by decide +kernel) (va_cons (ve_sl (vv 0) (vo_some ve_int) vo_none) va_nil)) (fun _ _ => rfl)) va_nil))))) vss_nil)
    (vss_one (vs_retv 0)))))
abbrev s_put_together : Stmt := topS 18
abbrev n_put_together : List Str := ["first", "second", "links", "names", "steps", "places", "operation", "left", "right", "step", "many", "link"]
theorem sc_put_together : FnScope n_put_together ["first", "second", "links"] (defScope s_put_together) := ⟨rfl, rfl, rfl, by decide +kernel, rfl, by decide +kernel, by decide +kernel⟩
theorem ok_put_together (T : Txt K mg ca a__law_cell a__law_draw a__law_rows a_is_possible a_moved a_walk a_task_of a_check_plan a_check_links a_input_names a_led a_put_together a_joined a_joined_plan a__law_told a_law aX_TidyError aX_PlanError aX_CodeError aX_JoinError aI_PlanError aI_JoinError) {fd_input_names : FuncData} (G_input_names : FnOk P w K mg base (L2.CX P w) 1 a_input_names fd_input_names ["first", "links"] (spV K ca 2 F_input_names)) (b_input_names : Binds K fd_input_names ["first", "links"] []) {fd_led : FuncData} (G_led : FnOk P w K mg base (L2.CX P w) 1 a_led fd_led ["operand", "names", "places"] (spV K ca 3 F_led)) (b_led : Binds K fd_led ["operand", "names", "places"] []) {fd : FuncData} (F : Fun K "put_together" "put_together" s_put_together a_put_together fd) : FnOk P w K mg base (L2.CX P w) 2 a_put_together fd ["first", "second", "links"] (spV K ca 3 F_put_together) :=
  fn_ok (k := 1) (N := n_put_together) (body := B_put_together) F sc_put_together (fun cdv A outer s H E hr tk hp =>
    (vss_cons (vs_set (i := 3) sc_put_together.nd rfl (Or.inl rfl) (ve_call G_input_names (hr.mono (by decide)) (by rfl) T.g_input_names T.k_input_names b_input_names tk (va_cons (vv 0) (va_cons (vv 2) va_nil))))
    (vss_cons (vs_set (i := 4) sc_put_together.nd rfl (Or.inl rfl) (ve_callTy call_list_of c_list (by rfl) T.z_list (by decide +kernel) (va_cons (ve_ix ix_seq s_ix (vv 0) ve_int (fun _ _ => rfl)) va_nil)))
    (vss_cons (vs_set (i := 5) sc_put_together.nd rfl (Or.inl rfl) (ve_lst va_nil))
    (vss_cons (vs_for hp rfl (vi_any (ve_ix ix_seq s_ix (vv 1) ve_int (fun _ _ => rfl))) (vg_tup rfl (vgs_cons sc_put_together.nd rfl (Or.inl rfl) (vgs_cons sc_put_together.nd rfl (Or.inl rfl) (vgs_cons sc_put_together.nd rfl (Or.inl rfl) vgs_nil)))) (vss_cons (vs_fz 3 (vs_set (i := 9) sc_put_together.nd rfl (Or.inl rfl) (ve_tup (va_cons (vv 6) (va_cons (ve_call G_led (hr.mono (by decide)) (by rfl) T.g_led T.k_led b_led tk (va_cons (vv 7) (va_cons (vv 3) (va_cons (vv 5) va_nil)))) (va_cons (ve_call G_led (hr.mono (by decide)) (by rfl) T.g_led T.k_led b_led tk (va_cons (vv 8) (va_cons (vv 3) (va_cons (vv 5) va_nil)))) va_nil))))))
    (vss_cons (vs_if (vt_cmp (op_notInA (hu65 hr)) s_notIn (vv 9) (vv 4) (by rfl)) (vss_one (vs_app 4 (vv 9))) vss_nil)
    (vss_one (vs_app 5 (ve_idxL (hu65 hr) (vv 4) (vv 9)))))))
    (vss_cons (vs_set (i := 10) sc_put_together.nd rfl (Or.inl rfl) (ve_op op_addA s_add (ve_ix ix_seq s_ix (vv 0) ve_int (fun _ _ => rfl)) (ve_callB call_lenA c_len (by rfl) T.z_len (by decide +kernel) (va_cons (ve_lc (own := [("link", 11)]) rfl sc_put_together.nd (vj_any (vv 2)) (blkOk_by (own := [("link", 11)]) (N := n_put_together) (sc := defScope s_put_together) (by decide +kernel)) (by decide) (fun _ _ _ _ _ => (vg_name sc_put_together.nd rfl (Or.inl rfl))) (fun _ _ _ _ _ => (vts_one (vt_cmp op_isN s_is (vv 11) ve_non (nomark _)))) (fun _ _ _ _ _ => (vv 11))) va_nil))))
    (vss_one (vs_fz 5 (vs_fz 4 (vs_fz 10 (vs_ret (ve_tup (va_cons (vv 10) (va_cons (vv 4) (va_cons (vv 5) va_nil)))))))))))))))
abbrev s_joined : Stmt := topS 19
abbrev n_joined : List Str := ["first", "second", "links", "keep", "many", "steps", "places", "outputs", "ordered", "output", "step"]
theorem sc_joined : FnScope n_joined ["first", "second", "links", "keep"] (defScope s_joined) := ⟨rfl, rfl, rfl, by decide +kernel, rfl, by decide +kernel, by decide +kernel⟩
theorem ok_joined (T : Txt K mg ca a__law_cell a__law_draw a__law_rows a_is_possible a_moved a_walk a_task_of a_check_plan a_check_links a_input_names a_led a_put_together a_joined a_joined_plan a__law_told a_law aX_TidyError aX_PlanError aX_CodeError aX_JoinError aI_PlanError aI_JoinError) {fd_check_links : FuncData} (G_check_links : FnOk P w K mg base (L2.CX P w) 3 a_check_links fd_check_links ["first", "second", "links"] (spV K ca 3 F_check_links)) (b_check_links : Binds K fd_check_links ["first", "second", "links"] []) {fd_put_together : FuncData} (G_put_together : FnOk P w K mg base (L2.CX P w) 2 a_put_together fd_put_together ["first", "second", "links"] (spV K ca 3 F_put_together)) (b_put_together : Binds K fd_put_together ["first", "second", "links"] []) {fdX_JoinError : FuncData} (GX_JoinError : FnOk P w K mg base (L2.CX P w) 1 aI_JoinError fdX_JoinError ["self", "what", "place"] (spI (ca 3) ["self", "what", "place"] ["self", "what", "place"] (tini_JoinError K))) (bX_JoinError : Binds K fdX_JoinError ["self", "what", "place"] []) {fd : FuncData} {dl_joined : List (Str × V)} (F : FunD K "joined" "joined" (defArgs s_joined) (defBody s_joined) (defScope s_joined) [] dl_joined a_joined fd) : FnOk P w K mg base (L2.CX P w) 4 a_joined fd ["first", "second", "links", "keep"] (spV K ca 4 F_joined) :=
  fnD_ok (k := 3) (N := n_joined) (body := B_joined) F sc_joined (fun cdv A outer s H E hr tk hp =>
    (vss_cons (vs_expr (ve_call G_check_links (hr.mono (by decide)) (by rfl) T.g_check_links T.k_check_links b_check_links tk (va_cons (vv 0) (va_cons (vv 1) (va_cons (vv 2) va_nil)))))
    (vss_cons (vs_unp (ve_call G_put_together (hr.mono (by decide)) (by rfl) T.g_put_together T.k_put_together b_put_together tk (va_cons (vv 0) (va_cons (vv 1) (va_cons (vv 2) va_nil)))) (vg_tup rfl (vgs_cons sc_joined.nd rfl (Or.inl rfl) (vgs_cons sc_joined.nd rfl (Or.inl rfl) (vgs_cons sc_joined.nd rfl (Or.inr rfl) vgs_nil)))))
    (vss_cons (vs_if (vt_cmp op_gt s_gt (vv 4) (ve_gint (by rfl) T.c_INPUTS.choose_spec) (nomark _)) (vss_one (vs_raise (c := 3) (n := 2) (flds := [("place", 1), ("what", 0)]) T.xo_JoinError T.xi_JoinError T.xt_JoinError GX_JoinError rfl (ini2 (i := 0) (j := 1) T.xo_JoinError T.xn_JoinError_what T.xn_JoinError_place) (hr.mono (by decide)) bX_JoinError tk rfl (by rfl) T.xr_JoinError (va_cons ve_str (va_cons (ve_un un_neg s_neg ve_int) va_nil)))) vss_nil)
    (vss_cons (vs_if (vt_cmp op_gt s_gt (ve_callB call_lenA c_len (by rfl) T.z_len (by decide +kernel) (va_cons (vv 5) va_nil)) (ve_gint (by rfl) T.c_STEPS.choose_spec) (nomark _)) (vss_one (vs_raise (c := 3) (n := 2) (flds := [("place", 1), ("what", 0)]) T.xo_JoinError T.xi_JoinError T.xt_JoinError GX_JoinError rfl (ini2 (i := 0) (j := 1) T.xo_JoinError T.xn_JoinError_what T.xn_JoinError_place) (hr.mono (by decide)) bX_JoinError tk rfl (by rfl) T.xr_JoinError (va_cons ve_str (va_cons (ve_un un_neg s_neg ve_int) va_nil)))) vss_nil)
    (vss_cons (vs_set (i := 7) sc_joined.nd rfl (Or.inr rfl) (ve_lc (own := [("output", 9)]) rfl sc_joined.nd (vj_any (ve_ix ix_seq s_ix (vv 1) ve_int (fun _ _ => rfl))) (blkOk_by (own := [("output", 9)]) (N := n_joined) (sc := defScope s_joined) (by decide +kernel)) (by decide) (fun _ _ _ _ _ => (vg_name sc_joined.nd rfl (Or.inl rfl))) (fun _ _ _ _ _ => vts_nil) (fun _ _ _ _ _ => (ve_ix ix_seq s_ix (vv 6) (vv 9) (fun _ _ => rfl)))))
    (vss_cons (vs_if (vt_val (vv 3)) (vss_one (vs_set (i := 7) sc_joined.nd rfl (Or.inr rfl) (ve_op op_addA s_add (vv 7) (ve_callTy call_list_of c_list (by rfl) T.z_list (by decide +kernel) (va_cons (ve_ix ix_seq s_ix (vv 0) ve_int (fun _ _ => rfl)) va_nil))))) vss_nil)
    (vss_cons (vs_setLc (i := 8) (own := [("step", 10)]) rfl sc_joined.nd rfl rfl (sw_true rfl rfl rfl (by decide +kernel)) (vi_range1 (by rfl) T.z_range (va_cons (ve_callB call_lenA c_len (by rfl) T.z_len (by decide +kernel) (va_cons (vv 5) va_nil)) va_nil)).vj (blkOk_by (own := [("step", 10)]) (N := n_joined) (sc := defScope s_joined) (by decide +kernel)) (by decide) (fun _ _ _ _ _ => (vg_name sc_joined.nd rfl (Or.inl rfl))) (fun _ _ _ _ _ => (vts_one (vt_cmp (op_inA (hu65 hr)) s_in (vv 10) (vv 7) (by rfl)))) (fun _ _ _ _ _ => (vv 10)))
    (vss_one (vs_ret (ve_tup (va_cons (ve_ix ix_seq s_ix (vv 0) ve_int (fun _ _ => rfl)) (va_cons (vv 4) (va_cons (ve_callTy call_tupN c_tuple (by rfl) T.z_tuple (by decide +kernel) (va_cons (vv 5) va_nil)) (va_cons (ve_callTy call_tupN c_tuple (by rfl) T.z_tuple (by decide +kernel) (va_cons (vv 8) va_nil)) va_nil)))))))))))))))
abbrev s_joined_plan : Stmt := topS 21
abbrev n_joined_plan : List Str := ["first", "second", "links", "plan", "other", "keep", "whole", "many", "steps", "places", "moves", "move"]
theorem sc_joined_plan : FnScope n_joined_plan ["first", "second", "links", "plan", "other", "keep"] (defScope s_joined_plan) := ⟨rfl, rfl, rfl, by decide +kernel, rfl, by decide +kernel, by decide +kernel⟩
theorem ok_joined_plan (T : Txt K mg ca a__law_cell a__law_draw a__law_rows a_is_possible a_moved a_walk a_task_of a_check_plan a_check_links a_input_names a_led a_put_together a_joined a_joined_plan a__law_told a_law aX_TidyError aX_PlanError aX_CodeError aX_JoinError aI_PlanError aI_JoinError) {fd_check_plan : FuncData} (G_check_plan : FnOk P w K mg base (L2.CX P w) 4 a_check_plan fd_check_plan ["program", "plan"] (spV K ca 2 F_check_plan)) (b_check_plan : Binds K fd_check_plan ["program", "plan"] []) {fd_joined : FuncData} (G_joined : FnOk P w K mg base (L2.CX P w) 4 a_joined fd_joined ["first", "second", "links", "keep"] (spV K ca 4 F_joined)) (b_joined_keep : KDB K fd_joined ["first", "second", "links", "keep"] 3 ["keep"] []) {fd_put_together : FuncData} (G_put_together : FnOk P w K mg base (L2.CX P w) 2 a_put_together fd_put_together ["first", "second", "links"] (spV K ca 3 F_put_together)) (b_put_together : Binds K fd_put_together ["first", "second", "links"] []) {fdX_JoinError : FuncData} (GX_JoinError : FnOk P w K mg base (L2.CX P w) 1 aI_JoinError fdX_JoinError ["self", "what", "place"] (spI (ca 3) ["self", "what", "place"] ["self", "what", "place"] (tini_JoinError K))) (bX_JoinError : Binds K fdX_JoinError ["self", "what", "place"] []) {fd : FuncData} {dl_joined_plan : List (Str × V)} (F : FunD K "joined_plan" "joined_plan" (defArgs s_joined_plan) (defBody s_joined_plan) (defScope s_joined_plan) [] dl_joined_plan a_joined_plan fd) : FnOk P w K mg base (L2.CX P w) 5 a_joined_plan fd ["first", "second", "links", "plan", "other", "keep"] (spV K ca 6 F_joined_plan) :=
  fnD_ok (k := 4) (N := n_joined_plan) (body := B_joined_plan) F sc_joined_plan (fun cdv A outer s H E hr tk hp =>
    (vss_cons (vs_expr (ve_call G_check_plan (hr.mono (by decide)) (by rfl) T.g_check_plan T.k_check_plan b_check_plan tk (va_cons (vv 0) (va_cons (vv 3) va_nil))))
    (vss_cons (vs_expr (ve_call G_check_plan (hr.mono (by decide)) (by rfl) T.g_check_plan T.k_check_plan b_check_plan tk (va_cons (vv 1) (va_cons (vv 4) va_nil))))
    (vss_cons (vs_set (i := 6) sc_joined_plan.nd rfl (Or.inl rfl) (ve_callK (ks := [("keep" : Str)]) G_joined (hr.mono (by decide)) (by rfl) T.g_joined T.k_joined b_joined_keep tk (va_cons (vv 0) (va_cons (vv 1) (va_cons (vv 2) va_nil))) (vk_cons (vv 5) vk_nil)))
    (vss_cons (vs_unp (ve_call G_put_together (hr.mono (by decide)) (by rfl) T.g_put_together T.k_put_together b_put_together tk (va_cons (vv 0) (va_cons (vv 1) (va_cons (vv 2) va_nil)))) (vg_tup rfl (vgs_cons sc_joined_plan.nd rfl (Or.inl rfl) (vgs_cons sc_joined_plan.nd rfl (Or.inl rfl) (vgs_cons sc_joined_plan.nd rfl (Or.inr rfl) vgs_nil)))))
    (vss_cons (vs_if (vt_cmp (op_neD hr.units) s_ne (ve_callB call_lenA c_len (by rfl) T.z_len (by decide +kernel) (va_cons (vv 8) va_nil)) (ve_op op_addA s_add (ve_callB call_lenA c_len (by rfl) T.z_len (by decide +kernel) (va_cons (ve_ix ix_seq s_ix (vv 0) ve_int (fun _ _ => rfl)) va_nil)) (ve_callB call_lenA c_len (by rfl) T.z_len (by decide +kernel) (va_cons (ve_ix ix_seq s_ix (vv 1) ve_int (fun _ _ => rfl)) va_nil))) (nomark _)) (vss_one (vs_raise (c := 3) (n := 2) (flds := [("place", 1), ("what", 0)]) T.xo_JoinError T.xi_JoinError T.xt_JoinError GX_JoinError rfl (ini2 (i := 0) (j := 1) T.xo_JoinError T.xn_JoinError_what T.xn_JoinError_place) (hr.mono (by decide)) bX_JoinError tk rfl (by rfl) T.xr_JoinError (va_cons ve_str (va_cons (ve_un un_neg s_neg ve_int) va_nil)))) vss_nil)
    (vss_cons (vs_set (i := 10) sc_joined_plan.nd rfl (Or.inl rfl) (ve_op op_addA s_add (ve_callTy call_list_of c_list (by rfl) T.z_list (by decide +kernel) (va_cons (vv 3) va_nil)) (ve_lc (own := [("move", 11)]) rfl sc_joined_plan.nd (vj_any (vv 4)) (blkOk_by (own := [("move", 11)]) (N := n_joined_plan) (sc := defScope s_joined_plan) (by decide +kernel)) (by decide) (fun _ _ _ _ _ => (vg_name sc_joined_plan.nd rfl (Or.inl rfl))) (fun _ _ _ _ _ => vts_nil) (fun _ _ _ _ _ => (ve_ix ix_seq s_ix (vv 9) (vv 11) (fun _ _ => rfl))))))
    (vss_cons (vs_if (vt_not (vt_val (vv 5))) (vss_one (vs_set (i := 10) sc_joined_plan.nd rfl (Or.inl rfl) (ve_op op_addA s_add (vv 10) (ve_rev (vv 3))))) vss_nil)
    (vss_cons (vs_if (vt_cmp op_gt s_gt (ve_callB call_lenA c_len (by rfl) T.z_len (by decide +kernel) (va_cons (vv 10) va_nil)) (ve_gint (by rfl) T.c_MOVES.choose_spec) (nomark _)) (vss_one (vs_raise (c := 3) (n := 2) (flds := [("place", 1), ("what", 0)]) T.xo_JoinError T.xi_JoinError T.xt_JoinError GX_JoinError rfl (ini2 (i := 0) (j := 1) T.xo_JoinError T.xn_JoinError_what T.xn_JoinError_place) (hr.mono (by decide)) bX_JoinError tk rfl (by rfl) T.xr_JoinError (va_cons ve_str (va_cons (ve_un un_neg s_neg ve_int) va_nil)))) vss_nil)
    (vss_one (vs_retv 10)))))))))))
abbrev s__law_told : Stmt := topS 26
abbrev n__law_told : List Str := ["_law_kind", "_law_first", "_law_second", "_law_links", "_law_plans", "_law_keep", "e"]
theorem sc__law_told : FnScope n__law_told ["_law_kind", "_law_first", "_law_second", "_law_links", "_law_plans", "_law_keep"] (defScope s__law_told) := ⟨rfl, rfl, rfl, by decide +kernel, rfl, by decide +kernel, by decide +kernel⟩
theorem ok__law_told (T : Txt K mg ca a__law_cell a__law_draw a__law_rows a_is_possible a_moved a_walk a_task_of a_check_plan a_check_links a_input_names a_led a_put_together a_joined a_joined_plan a__law_told a_law aX_TidyError aX_PlanError aX_CodeError aX_JoinError aI_PlanError aI_JoinError) {fd_joined : FuncData} (G_joined : FnOk P w K mg base (L2.CX P w) 4 a_joined fd_joined ["first", "second", "links", "keep"] (spV K ca 4 F_joined)) (b_joined_keep : KDB K fd_joined ["first", "second", "links", "keep"] 3 ["keep"] []) {fd_joined_plan : FuncData} (G_joined_plan : FnOk P w K mg base (L2.CX P w) 5 a_joined_plan fd_joined_plan ["first", "second", "links", "plan", "other", "keep"] (spV K ca 6 F_joined_plan)) (b_joined_plan_keep : KDB K fd_joined_plan ["first", "second", "links", "plan", "other", "keep"] 5 ["keep"] []) {fd : FuncData} (F : Fun K "_law_told" "_law_told" s__law_told a__law_told fd) : FnOk P w K mg base (L2.CX P w) 6 a__law_told fd ["_law_kind", "_law_first", "_law_second", "_law_links", "_law_plans", "_law_keep"] (spV K ca 6 F__law_told) :=
  fn_ok (k := 5) (N := n__law_told) (body := B__law_told) F sc__law_told (fun cdv A outer s H E hr tk hp =>
    (vss_one (vs_try (i := 6) (mt := mt_TidyError) (fb := Y0__law_told) (fs := Z0__law_told) rfl rfl sc__law_told.nd rfl rfl ⟨by rfl, by decide, .inl T.xg_TidyError⟩ tk T.xm_TidyError (fun W pn xe tk hp => (vss_cons (vs_if (vt_cmp (op_eqD hr.units) s_eq (vv 0) ve_int (nomark _)) (vss_one (vs_ret (ve_callK (ks := [("keep" : Str)]) G_joined (hr.mono (by decide)) (by rfl) T.g_joined T.k_joined b_joined_keep tk (va_cons (vv 1) (va_cons (vv 2) (va_cons (vv 3) va_nil))) (vk_cons (vv 5) vk_nil)))) vss_nil)
    (vss_one (vs_ret (ve_callK (ks := [("keep" : Str)]) G_joined_plan (hr.mono (by decide)) (by rfl) T.g_joined_plan T.k_joined_plan b_joined_plan_keep tk (va_cons (vv 1) (va_cons (vv 2) (va_cons (vv 3) (va_cons (ve_ix ix_seq s_ix (vv 4) ve_int (fun _ _ => rfl)) (va_cons (ve_ix ix_seq s_ix (vv 4) ve_int (fun _ _ => rfl)) va_nil))))) (vk_cons (vv 5) vk_nil)))))) (fun a dd c oe pn hz hf => (vss_cons (vs_if (vw (vw_or (vt_not (vt_val (ve_isE (i := 6) (tb := tk_JoinError) T.xk_JoinError hz hf (by rfl) T.z_isinstance (by rfl) T.xg_JoinError rfl (Or.inl rfl)))) (vw_or (vt_val (ve_isE (i := 6) (tb := tk_PlanError) T.xk_PlanError hz hf (by rfl) T.z_isinstance (by rfl) T.xg_PlanError rfl (Or.inl rfl))) (vw_or1 (vt_val (ve_isE (i := 6) (tb := tk_CodeError) T.xk_CodeError hz hf (by rfl) T.z_isinstance (by rfl) T.xg_CodeError rfl (Or.inl rfl))))))) (vss_one (vs_ret ve_non)) vss_nil)
    (vss_one (vs_ret (ve_tup (va_cons (ve_xf (i := 6) (cs := cs_what) T.xx_what hz hf rfl (Or.inl rfl)) (va_cons (ve_xf (i := 6) (cs := cs_place) T.xx_place hz hf rfl (Or.inl rfl)) va_nil))))))))))
abbrev s_law : Stmt := topS 27
abbrev n_law : List Str := ["_law_script", "_law_w", "_law_digits", "_law_first", "_law_second", "_law_links", "_law_keep", "_law_many", "_law_fault", "_law_told_here", "_law_plans", "_law_moves", "_law_due", "_law_link"]
theorem sc_law : FnScope n_law ["_law_script"] (defScope s_law) := ⟨rfl, rfl, rfl, by decide +kernel, rfl, by decide +kernel, by decide +kernel⟩
theorem ok_law (T : Txt K mg ca a__law_cell a__law_draw a__law_rows a_is_possible a_moved a_walk a_task_of a_check_plan a_check_links a_input_names a_led a_put_together a_joined a_joined_plan a__law_told a_law aX_TidyError aX_PlanError aX_CodeError aX_JoinError aI_PlanError aI_JoinError) {fd__law_draw : FuncData} (G__law_draw : FnOk P w K mg base (L2.CX P w) 2 a__law_draw fd__law_draw ["_law_script", "_law_k", "_law_sizes"] (spV K ca 3 F__law_draw)) (b__law_draw : Binds K fd__law_draw ["_law_script", "_law_k", "_law_sizes"] []) {fd__law_rows : FuncData} (G__law_rows : FnOk P w K mg base (L2.CX P w) 1 a__law_rows fd__law_rows ["_law_count", "_law_inputs", "_law_last"] (spV K ca 3 F__law_rows)) (b__law_rows : Binds K fd__law_rows ["_law_count", "_law_inputs", "_law_last"] []) {fd__law_told : FuncData} (G__law_told : FnOk P w K mg base (L2.CX P w) 6 a__law_told fd__law_told ["_law_kind", "_law_first", "_law_second", "_law_links", "_law_plans", "_law_keep"] (spV K ca 6 F__law_told)) (b__law_told : Binds K fd__law_told ["_law_kind", "_law_first", "_law_second", "_law_links", "_law_plans", "_law_keep"] []) {fd : FuncData} (F : Fun K "law" "law" s_law a_law fd) : FnOk P w K mg base (L2.CX P w) 7 a_law fd ["_law_script"] (spV K ca 1 F_law) :=
  fn_ok (k := 6) (N := n_law) (body := B_law) F sc_law (fun cdv A outer s H E hr tk hp =>
    (vss_cons (vs_for hp rfl (vi_range1 (by rfl) T.z_range (va_cons (ve_callB (call_min2 rfl) c_min2 (by rfl) T.z_min (by decide +kernel) (va_cons ve_int (va_cons (ve_callB (call_max2 rfl) c_max2 (by rfl) T.z_max (by decide +kernel) (va_cons ve_int (va_cons (ve_op op_fdiv s_div (ve_callB call_lenA c_len (by rfl) T.z_len (by decide +kernel) (va_cons (vv 0) va_nil)) ve_int) va_nil))) va_nil))) va_nil)) (vg_name sc_law.nd rfl (Or.inl rfl)) (vss_cons (vs_set (i := 2) sc_law.nd rfl (Or.inl rfl) (ve_call G__law_draw (hr.mono (by decide)) (by rfl) T.g__law_draw T.k__law_draw b__law_draw tk (va_cons (vv 0) (va_cons (ve_op op_mul s_mul ve_int (vv 1)) (va_cons (ve_lst (va_cons ve_int (va_cons ve_int (va_cons ve_int (va_cons ve_int (va_cons ve_int (va_cons ve_int (va_cons ve_int (va_cons ve_int va_nil))))))))) va_nil)))))
    (vss_cons (vs_set (i := 3) sc_law.nd rfl (Or.inl rfl) (ve_call G__law_rows (hr.mono (by decide)) (by rfl) T.g__law_rows T.k__law_rows b__law_rows tk (va_cons (ve_op op_addA s_add ve_int (ve_ix ix_seq s_ix (vv 2) ve_int (fun _ _ => rfl))) (va_cons (ve_op op_addA s_add ve_int (ve_ix ix_seq s_ix (vv 2) ve_int (fun _ _ => rfl))) (va_cons ve_int va_nil)))))
    (vss_cons (vs_set (i := 4) sc_law.nd rfl (Or.inl rfl) (ve_call G__law_rows (hr.mono (by decide)) (by rfl) T.g__law_rows T.k__law_rows b__law_rows tk (va_cons (ve_op op_addA s_add ve_int (ve_ix ix_seq s_ix (vv 2) ve_int (fun _ _ => rfl))) (va_cons (ve_op op_addA s_add ve_int (ve_ix ix_seq s_ix (vv 2) ve_int (fun _ _ => rfl))) (va_cons ve_int va_nil)))))
    (vss_cons (vs_set (i := 5) sc_law.nd rfl (Or.inl rfl) (ve_op op_rep s_rep (ve_lst (va_cons ve_non va_nil)) (ve_ix ix_seq s_ix (vv 4) ve_int (fun _ _ => rfl))))
    (vss_cons (vs_if (vt_cmp (op_eqD hr.units) s_eq (ve_ix ix_seq s_ix (vv 2) ve_int (fun _ _ => rfl)) ve_int (nomark _)) (vss_one (vs_store 5 (ve_ix ix_seq s_ix (vv 2) ve_int (fun _ _ => rfl)) ve_int)) vss_nil)
    (vss_cons (vs_set (i := 6) sc_law.nd rfl (Or.inl rfl) (ve_cmp (op_eqD hr.units) s_eq (ve_ix ix_seq s_ix (vv 2) ve_int (fun _ _ => rfl)) ve_int (nomark _)))
    (vss_cons (vs_set (i := 7) sc_law.nd rfl (Or.inl rfl) (ve_op op_addA s_add (ve_ix ix_seq s_ix (vv 3) ve_int (fun _ _ => rfl)) (ve_callB call_lenA c_len (by rfl) T.z_len (by decide +kernel) (va_cons (ve_lc (own := [("_law_link", 13)]) rfl sc_law.nd (vj_any (vv 5)) (blkOk_by (own := [("_law_link", 13)]) (N := n_law) (sc := defScope s_law) (by decide +kernel)) (by decide) (fun _ _ _ _ _ => (vg_name sc_law.nd rfl (Or.inl rfl))) (fun _ _ _ _ _ => (vts_one (vt_cmp op_isN s_is (vv 13) ve_non (nomark _)))) (fun _ _ _ _ _ => (vv 13))) va_nil))))
    (vss_cons (vs_set (i := 8) sc_law.nd rfl (Or.inl rfl) ve_non)
    (vss_cons (vs_if (vt_cmp op_gt s_gt (vv 7) ve_int (nomark _)) (vss_one (vs_set (i := 8) sc_law.nd rfl (Or.inl rfl) (ve_tup (va_cons ve_str (va_cons (ve_un un_neg s_neg ve_int) va_nil))))) (vss_one (vs_if (vt_cmp op_gt s_gt (ve_op op_addA s_add (ve_callB call_lenA c_len (by rfl) T.z_len (by decide +kernel) (va_cons (ve_ix ix_seq s_ix (vv 3) ve_int (fun _ _ => rfl)) va_nil)) (ve_callB call_lenA c_len (by rfl) T.z_len (by decide +kernel) (va_cons (ve_ix ix_seq s_ix (vv 4) ve_int (fun _ _ => rfl)) va_nil))) ve_int (nomark _)) (vss_one (vs_set (i := 8) sc_law.nd rfl (Or.inl rfl) (ve_tup (va_cons ve_str (va_cons (ve_un un_neg s_neg ve_int) va_nil))))) vss_nil)))
    (vss_cons (vs_fz 4 (vs_fz 3 (vs_set (i := 9) sc_law.nd rfl (Or.inl rfl) (ve_call G__law_told (hr.mono (by decide)) (by rfl) T.g__law_told T.k__law_told b__law_told tk (va_cons ve_int (va_cons (vv 3) (va_cons (vv 4) (va_cons (ve_callTy call_tupN c_tuple (by rfl) T.z_tuple (by decide +kernel) (va_cons (vv 5) va_nil)) (va_cons (ve_lst va_nil) (va_cons (vv 6) va_nil))))))))))
    (vss_cons (vs_if (vt_cmp op_notN s_isNot (vv 8) ve_non (nomark _)) (vss_one (vs_if (vt_cmp (op_neD hr.units) s_ne (vv 9) (vv 8) (nomark _)) (vss_one (vs_ret ve_bl)) vss_nil)) (vss_one (vs_fz 7 (vs_if (vw (vw_or (vt_not (vt_val (ve_isi (by rfl) T.z_isinstance (by rfl) T.z_tuple (by decide +kernel) (vv 9)))) (vw_or (vt_cmp (op_neD hr.units) s_ne (ve_sl (vv 9) vo_none (vo_some ve_int)) (ve_tup (va_cons ve_int (va_cons (vv 7) va_nil))) (nomark _)) (vw_or1 (vt_cmp (op_neD hr.units) s_ne (ve_callB call_lenA c_len (by rfl) T.z_len (by decide +kernel) (va_cons (ve_ix ix_seq s_ix (vv 9) ve_int (fun _ _ => rfl)) va_nil)) (ve_op op_addA s_add (ve_callB call_lenA c_len (by rfl) T.z_len (by decide +kernel) (va_cons (ve_ix ix_seq s_ix (vv 3) ve_int (fun _ _ => rfl)) va_nil)) (ve_callB call_lenA c_len (by rfl) T.z_len (by decide +kernel) (va_cons (ve_ix ix_seq s_ix (vv 4) ve_int (fun _ _ => rfl)) va_nil))) (nomark _)))))) (vss_one (vs_ret ve_bl)) vss_nil))))
    (vss_cons (vs_set (i := 10) sc_law.nd rfl (Or.inl rfl) (ve_lst (va_cons (ve_op op_rep s_rep (ve_lst (va_cons (ve_ix ix_seq s_ix (vv 2) ve_int (fun _ _ => rfl)) va_nil)) (ve_op op_addA s_add ve_int (ve_op op_mul s_mul ve_int (ve_ix ix_seq s_ix (vv 2) ve_int (fun _ _ => rfl))))) (va_cons (ve_op op_rep s_rep (ve_lst (va_cons (ve_ix ix_seq s_ix (vv 2) ve_int (fun _ _ => rfl)) va_nil)) (ve_op op_addA s_add ve_int (ve_op op_mul s_mul ve_int (ve_ix ix_seq s_ix (vv 2) ve_int (fun _ _ => rfl))))) va_nil))))
    (vss_cons (vs_set (i := 11) sc_law.nd rfl (Or.inl rfl) (ve_op op_addA s_add (ve_ix ix_seq s_ix (vv 10) ve_int (fun _ _ => rfl)) (ve_op op_rep s_rep (ve_lst (va_cons (ve_op op_addA s_add (ve_callB call_lenA c_len (by rfl) T.z_len (by decide +kernel) (va_cons (ve_ix ix_seq s_ix (vv 3) ve_int (fun _ _ => rfl)) va_nil)) (ve_ix ix_seq s_ix (vv 2) ve_int (fun _ _ => rfl))) va_nil)) (ve_callB call_lenA c_len (by rfl) T.z_len (by decide +kernel) (va_cons (ve_ix ix_seq s_ix (vv 10) ve_int (fun _ _ => rfl)) va_nil)))))
    (vss_cons (vs_if (vt_not (vt_val (vv 6))) (vss_one (vs_set (i := 11) sc_law.nd rfl (Or.inl rfl) (ve_op op_addA s_add (vv 11) (ve_ix ix_seq s_ix (vv 10) ve_int (fun _ _ => rfl))))) vss_nil)
    (vss_cons (vs_fz 11 (vs_set (i := 12) sc_law.nd rfl (Or.inl rfl) (vv 11)))
    (vss_cons (vs_if (vt_cmp op_gt s_gt (ve_callB call_lenA c_len (by rfl) T.z_len (by decide +kernel) (va_cons (vv 11) va_nil)) ve_int (nomark _)) (vss_one (vs_set (i := 12) sc_law.nd rfl (Or.inl rfl) (ve_tup (va_cons ve_str (va_cons (ve_un un_neg s_neg ve_int) va_nil))))) vss_nil)
    (vss_cons (vs_if (vt_cmp op_notN s_isNot (vv 8) ve_non (nomark _)) (vss_one (vs_set (i := 12) sc_law.nd rfl (Or.inl rfl) (vv 8))) vss_nil)
    (vss_one (vs_fz 10 (vs_fz 4 (vs_fz 3 (vs_if (vt_cmp (op_neD hr.units) s_ne (ve_call G__law_told (hr.mono (by decide)) (by rfl) T.g__law_told T.k__law_told b__law_told tk (va_cons ve_int (va_cons (vv 3) (va_cons (vv 4) (va_cons (ve_callTy call_tupN c_tuple (by rfl) T.z_tuple (by decide +kernel) (va_cons (vv 5) va_nil)) (va_cons (vv 10) (va_cons (vv 6) va_nil))))))) (vv 12) (nomark _)) (vss_one (vs_ret ve_bl)) vss_nil)))))))))))))))))))))))
    (vss_one (vs_ret ve_bl))))
end
def caX (a_PlanError a_JoinError : Addr) : Nat → Addr
  | 1 => a_PlanError
  | 3 => a_JoinError
  | _ => 0
theorem all_mk {l : PySem.W.OpenLaw} {w : World} {K : PySem.W.Frag} {h : Heap} {mg : Str → Option Value} {fa a__law_cell a__law_draw a__law_rows a_is_possible a_moved a_walk a_task_of a_check_plan a_check_links a_input_names a_led a_put_together a_joined a_joined_plan a__law_told a_law aX_TidyError aX_PlanError aX_CodeError aX_JoinError aI_PlanError aI_JoinError : Addr} (X : K.In h) (G : h.Ns mainGlobals mg) (hfa : mg "law" = some (.ref fa))
    {od__law_cell an__law_cell od__law_draw an__law_draw od__law_rows an__law_rows od_is_possible an_is_possible od_moved an_moved od_walk an_walk od_task_of an_task_of od_check_plan an_check_plan od_check_links an_check_links od_input_names an_input_names od_led an_led od_put_together an_put_together od_joined an_joined od_joined_plan an_joined_plan od__law_told an__law_told od_law an_law : Option Addr} {sl__law_cell sl__law_draw sl__law_rows sl_is_possible sl_moved sl_walk sl_task_of sl_check_plan sl_check_links sl_input_names sl_led sl_put_together sl_joined sl_joined_plan sl__law_told sl_law : Array (Option Value)} {oc__law_cell kV__law_cell dc__law_cell pm__law_cell cd__law_cell ct__law_cell oc__law_draw kV__law_draw dc__law_draw pm__law_draw cd__law_draw ct__law_draw oc__law_rows kV__law_rows dc__law_rows pm__law_rows cd__law_rows ct__law_rows oc_is_possible kV_is_possible dc_is_possible pm_is_possible cd_is_possible ct_is_possible oc_moved kV_moved dc_moved pm_moved cd_moved ct_moved oc_walk dc_walk pm_walk cd_walk ct_walk oc_task_of kV_task_of dc_task_of pm_task_of cd_task_of ct_task_of oc_check_plan kV_check_plan dc_check_plan pm_check_plan cd_check_plan ct_check_plan oc_check_links kV_check_links dc_check_links pm_check_links cd_check_links ct_check_links oc_input_names kV_input_names dc_input_names pm_input_names cd_input_names ct_input_names oc_led kV_led dc_led pm_led cd_led ct_led oc_put_together kV_put_together dc_put_together pm_put_together cd_put_together ct_put_together oc_joined dc_joined pm_joined cd_joined ct_joined oc_joined_plan dc_joined_plan pm_joined_plan cd_joined_plan ct_joined_plan oc__law_told kV__law_told dc__law_told pm__law_told cd__law_told ct__law_told oc_law kV_law dc_law pm_law cd_law ct_law : Value}
    (p__law_cell : PySem.W.nsIn K mainGlobals "_law_cell" = some (some (.ref a__law_cell))) (l__law_cell : K.lookup a__law_cell = some ⟨oc__law_cell, od__law_cell, .func (PySem.W.fnOf "_law_cell" "_law_cell" (defArgs s__law_cell) (defBody s__law_cell) (defScope s__law_cell) .none kV__law_cell dc__law_cell pm__law_cell an__law_cell cd__law_cell ct__law_cell), sl__law_cell⟩) (c__law_cell : PySem.W.codeIn K cd__law_cell "_law_cell" = true) (k__law_cell : PySem.W.keepIn K (.ref a__law_cell) = true)
    (p__law_draw : PySem.W.nsIn K mainGlobals "_law_draw" = some (some (.ref a__law_draw))) (l__law_draw : K.lookup a__law_draw = some ⟨oc__law_draw, od__law_draw, .func (PySem.W.fnOf "_law_draw" "_law_draw" (defArgs s__law_draw) (defBody s__law_draw) (defScope s__law_draw) .none kV__law_draw dc__law_draw pm__law_draw an__law_draw cd__law_draw ct__law_draw), sl__law_draw⟩) (c__law_draw : PySem.W.codeIn K cd__law_draw "_law_draw" = true) (k__law_draw : PySem.W.keepIn K (.ref a__law_draw) = true)
    (p__law_rows : PySem.W.nsIn K mainGlobals "_law_rows" = some (some (.ref a__law_rows))) (l__law_rows : K.lookup a__law_rows = some ⟨oc__law_rows, od__law_rows, .func (PySem.W.fnOf "_law_rows" "_law_rows" (defArgs s__law_rows) (defBody s__law_rows) (defScope s__law_rows) .none kV__law_rows dc__law_rows pm__law_rows an__law_rows cd__law_rows ct__law_rows), sl__law_rows⟩) (c__law_rows : PySem.W.codeIn K cd__law_rows "_law_rows" = true) (k__law_rows : PySem.W.keepIn K (.ref a__law_rows) = true)
    (p_is_possible : PySem.W.nsIn K mainGlobals "is_possible" = some (some (.ref a_is_possible))) (l_is_possible : K.lookup a_is_possible = some ⟨oc_is_possible, od_is_possible, .func (PySem.W.fnOf "is_possible" "is_possible" (defArgs s_is_possible) (defBody s_is_possible) (defScope s_is_possible) .none kV_is_possible dc_is_possible pm_is_possible an_is_possible cd_is_possible ct_is_possible), sl_is_possible⟩) (c_is_possible : PySem.W.codeIn K cd_is_possible "is_possible" = true) (k_is_possible : PySem.W.keepIn K (.ref a_is_possible) = true)
    (p_moved : PySem.W.nsIn K mainGlobals "moved" = some (some (.ref a_moved))) (l_moved : K.lookup a_moved = some ⟨oc_moved, od_moved, .func (PySem.W.fnOf "moved" "moved" (defArgs s_moved) (defBody s_moved) (defScope s_moved) .none kV_moved dc_moved pm_moved an_moved cd_moved ct_moved), sl_moved⟩) (c_moved : PySem.W.codeIn K cd_moved "moved" = true) (k_moved : PySem.W.keepIn K (.ref a_moved) = true)
    {D_walk : Addr}
    (p_walk : PySem.W.nsIn K mainGlobals "walk" = some (some (.ref a_walk))) (l_walk : K.lookup a_walk = some ⟨oc_walk, od_walk, .func (PySem.W.fnOf "walk" "walk" (defArgs s_walk) (defBody s_walk) (defScope s_walk) .none (.ref D_walk) dc_walk pm_walk an_walk cd_walk ct_walk), sl_walk⟩) (c_walk : PySem.W.codeIn K cd_walk "walk" = true) (k_walk : PySem.W.keepIn K (.ref a_walk) = true)
    {T_walk_start : Addr} {nT_walk_start : Nat} {slT_walk_start : Array (Option Value)} (d_walk_start : PySem.W.nsIn K D_walk "start" = some (some (.ref T_walk_start))) (e_walk_start : K.lookup T_walk_start = some ⟨.type "tuple", none, .seq #[] nT_walk_start, slT_walk_start⟩)
    (p_task_of : PySem.W.nsIn K mainGlobals "task_of" = some (some (.ref a_task_of))) (l_task_of : K.lookup a_task_of = some ⟨oc_task_of, od_task_of, .func (PySem.W.fnOf "task_of" "task_of" (defArgs s_task_of) (defBody s_task_of) (defScope s_task_of) .none kV_task_of dc_task_of pm_task_of an_task_of cd_task_of ct_task_of), sl_task_of⟩) (c_task_of : PySem.W.codeIn K cd_task_of "task_of" = true) (k_task_of : PySem.W.keepIn K (.ref a_task_of) = true)
    (p_check_plan : PySem.W.nsIn K mainGlobals "check_plan" = some (some (.ref a_check_plan))) (l_check_plan : K.lookup a_check_plan = some ⟨oc_check_plan, od_check_plan, .func (PySem.W.fnOf "check_plan" "check_plan" (defArgs s_check_plan) (defBody s_check_plan) (defScope s_check_plan) .none kV_check_plan dc_check_plan pm_check_plan an_check_plan cd_check_plan ct_check_plan), sl_check_plan⟩) (c_check_plan : PySem.W.codeIn K cd_check_plan "check_plan" = true) (k_check_plan : PySem.W.keepIn K (.ref a_check_plan) = true)
    (p_check_links : PySem.W.nsIn K mainGlobals "check_links" = some (some (.ref a_check_links))) (l_check_links : K.lookup a_check_links = some ⟨oc_check_links, od_check_links, .func (PySem.W.fnOf "check_links" "check_links" (defArgs s_check_links) (defBody s_check_links) (defScope s_check_links) .none kV_check_links dc_check_links pm_check_links an_check_links cd_check_links ct_check_links), sl_check_links⟩) (c_check_links : PySem.W.codeIn K cd_check_links "check_links" = true) (k_check_links : PySem.W.keepIn K (.ref a_check_links) = true)
    (p_input_names : PySem.W.nsIn K mainGlobals "input_names" = some (some (.ref a_input_names))) (l_input_names : K.lookup a_input_names = some ⟨oc_input_names, od_input_names, .func (PySem.W.fnOf "input_names" "input_names" (defArgs s_input_names) (defBody s_input_names) (defScope s_input_names) .none kV_input_names dc_input_names pm_input_names an_input_names cd_input_names ct_input_names), sl_input_names⟩) (c_input_names : PySem.W.codeIn K cd_input_names "input_names" = true) (k_input_names : PySem.W.keepIn K (.ref a_input_names) = true)
    (p_led : PySem.W.nsIn K mainGlobals "led" = some (some (.ref a_led))) (l_led : K.lookup a_led = some ⟨oc_led, od_led, .func (PySem.W.fnOf "led" "led" (defArgs s_led) (defBody s_led) (defScope s_led) .none kV_led dc_led pm_led an_led cd_led ct_led), sl_led⟩) (c_led : PySem.W.codeIn K cd_led "led" = true) (k_led : PySem.W.keepIn K (.ref a_led) = true)
    (p_put_together : PySem.W.nsIn K mainGlobals "put_together" = some (some (.ref a_put_together))) (l_put_together : K.lookup a_put_together = some ⟨oc_put_together, od_put_together, .func (PySem.W.fnOf "put_together" "put_together" (defArgs s_put_together) (defBody s_put_together) (defScope s_put_together) .none kV_put_together dc_put_together pm_put_together an_put_together cd_put_together ct_put_together), sl_put_together⟩) (c_put_together : PySem.W.codeIn K cd_put_together "put_together" = true) (k_put_together : PySem.W.keepIn K (.ref a_put_together) = true)
    {D_joined : Addr}
    (p_joined : PySem.W.nsIn K mainGlobals "joined" = some (some (.ref a_joined))) (l_joined : K.lookup a_joined = some ⟨oc_joined, od_joined, .func (PySem.W.fnOf "joined" "joined" (defArgs s_joined) (defBody s_joined) (defScope s_joined) .none (.ref D_joined) dc_joined pm_joined an_joined cd_joined ct_joined), sl_joined⟩) (c_joined : PySem.W.codeIn K cd_joined "joined" = true) (k_joined : PySem.W.keepIn K (.ref a_joined) = true)
    (d_joined_keep : PySem.W.nsIn K D_joined "keep" = some (some (.bool false)))
    {D_joined_plan : Addr}
    (p_joined_plan : PySem.W.nsIn K mainGlobals "joined_plan" = some (some (.ref a_joined_plan))) (l_joined_plan : K.lookup a_joined_plan = some ⟨oc_joined_plan, od_joined_plan, .func (PySem.W.fnOf "joined_plan" "joined_plan" (defArgs s_joined_plan) (defBody s_joined_plan) (defScope s_joined_plan) .none (.ref D_joined_plan) dc_joined_plan pm_joined_plan an_joined_plan cd_joined_plan ct_joined_plan), sl_joined_plan⟩) (c_joined_plan : PySem.W.codeIn K cd_joined_plan "joined_plan" = true) (k_joined_plan : PySem.W.keepIn K (.ref a_joined_plan) = true)
    (d_joined_plan_keep : PySem.W.nsIn K D_joined_plan "keep" = some (some (.bool false)))
    (p__law_told : PySem.W.nsIn K mainGlobals "_law_told" = some (some (.ref a__law_told))) (l__law_told : K.lookup a__law_told = some ⟨oc__law_told, od__law_told, .func (PySem.W.fnOf "_law_told" "_law_told" (defArgs s__law_told) (defBody s__law_told) (defScope s__law_told) .none kV__law_told dc__law_told pm__law_told an__law_told cd__law_told ct__law_told), sl__law_told⟩) (c__law_told : PySem.W.codeIn K cd__law_told "_law_told" = true) (k__law_told : PySem.W.keepIn K (.ref a__law_told) = true)
    (p_law : PySem.W.nsIn K mainGlobals "law" = some (some (.ref a_law))) (l_law : K.lookup a_law = some ⟨oc_law, od_law, .func (PySem.W.fnOf "law" "law" (defArgs s_law) (defBody s_law) (defScope s_law) .none kV_law dc_law pm_law an_law cd_law ct_law), sl_law⟩) (c_law : PySem.W.codeIn K cd_law "law" = true) (k_law : PySem.W.keepIn K (.ref a_law) = true)
    (z_int : PySem.W.nsIn K mainGlobals "int" = some none)
    (z_isinstance : PySem.W.nsIn K mainGlobals "isinstance" = some none)
    (z_len : PySem.W.nsIn K mainGlobals "len" = some none)
    (z_list : PySem.W.nsIn K mainGlobals "list" = some none)
    (z_max : PySem.W.nsIn K mainGlobals "max" = some none)
    (z_min : PySem.W.nsIn K mainGlobals "min" = some none)
    (z_range : PySem.W.nsIn K mainGlobals "range" = some none)
    (z_set : PySem.W.nsIn K mainGlobals "set" = some none)
    (z_sorted : PySem.W.nsIn K mainGlobals "sorted" = some none)
    (z_str : PySem.W.nsIn K mainGlobals "str" = some none)
    (z_tuple : PySem.W.nsIn K mainGlobals "tuple" = some none)
    {t_INPUTS : Tok} (q_INPUTS : PySem.W.nsIn K mainGlobals "INPUTS" = some (some (.int 6 t_INPUTS)))
    {t_MOVES : Tok} (q_MOVES : PySem.W.nsIn K mainGlobals "MOVES" = some (some (.int 255 t_MOVES)))
    {t_STEPS : Tok} (q_STEPS : PySem.W.nsIn K mainGlobals "STEPS" = some (some (.int 8 t_STEPS)))
    (px_TidyError : PySem.W.nsIn K mainGlobals "TidyError" = some (some (.ref aX_TidyError)))
    (eb_TidyError : PySem.W.subIn K (.ref aX_TidyError) (.type "BaseException") = some true)
    (hd_TidyError : PySem.W.hasDictIn K aX_TidyError = true)
    (ty_TidyError : PySem.W.typeIn K (.ref aX_TidyError) = some (.type "type"))
    (px_PlanError : PySem.W.nsIn K mainGlobals "PlanError" = some (some (.ref aX_PlanError)))
    (eb_PlanError : PySem.W.subIn K (.ref aX_PlanError) (.type "BaseException") = some true)
    (hd_PlanError : PySem.W.hasDictIn K aX_PlanError = true)
    (ty_PlanError : PySem.W.typeIn K (.ref aX_PlanError) = some (.type "type"))
    (px_CodeError : PySem.W.nsIn K mainGlobals "CodeError" = some (some (.ref aX_CodeError)))
    (eb_CodeError : PySem.W.subIn K (.ref aX_CodeError) (.type "BaseException") = some true)
    (hd_CodeError : PySem.W.hasDictIn K aX_CodeError = true)
    (ty_CodeError : PySem.W.typeIn K (.ref aX_CodeError) = some (.type "type"))
    (px_JoinError : PySem.W.nsIn K mainGlobals "JoinError" = some (some (.ref aX_JoinError)))
    (eb_JoinError : PySem.W.subIn K (.ref aX_JoinError) (.type "BaseException") = some true)
    (hd_JoinError : PySem.W.hasDictIn K aX_JoinError = true)
    (ty_JoinError : PySem.W.typeIn K (.ref aX_JoinError) = some (.type "type"))
    (ss_JoinError : PySem.W.subIn K (.ref aX_JoinError) (.ref aX_JoinError) = some true)
    (ss_PlanError : PySem.W.subIn K (.ref aX_PlanError) (.ref aX_PlanError) = some true)
    (ss_CodeError : PySem.W.subIn K (.ref aX_CodeError) (.ref aX_CodeError) = some true)
    (sb_PlanError_TidyError : PySem.W.subIn K (.ref aX_PlanError) (.ref aX_TidyError) = some true)
    (sb_JoinError_TidyError : PySem.W.subIn K (.ref aX_JoinError) (.ref aX_TidyError) = some true)
    (sb_PlanError_PlanError : PySem.W.subIn K (.ref aX_PlanError) (.ref aX_PlanError) = some true)
    (sb_JoinError_PlanError : PySem.W.subIn K (.ref aX_JoinError) (.ref aX_PlanError) = some false)
    (sb_PlanError_CodeError : PySem.W.subIn K (.ref aX_PlanError) (.ref aX_CodeError) = some false)
    (sb_JoinError_CodeError : PySem.W.subIn K (.ref aX_JoinError) (.ref aX_CodeError) = some false)
    (sb_PlanError_JoinError : PySem.W.subIn K (.ref aX_PlanError) (.ref aX_JoinError) = some false)
    (sb_JoinError_JoinError : PySem.W.subIn K (.ref aX_JoinError) (.ref aX_JoinError) = some true)
    {nmX_PlanError : Str} {qX_PlanError : Str} {NX_PlanError : Addr} {bsX_PlanError : List Value} {bmX_PlanError : List Value} {snX_PlanError : List Str} {subX_PlanError : List Value} {abX_PlanError : Bool} {colX_PlanError : Option Bool} {ddX_PlanError : Option Addr} {k0X_PlanError : Option Value} {k1X_PlanError : Option Value} {k2X_PlanError : Option Value} {k3X_PlanError : Option Value} {k5X_PlanError : Option Value} {kVX_PlanError : Value} {dcX_PlanError : Value} {pmX_PlanError : Value} {anX_PlanError : Option Addr} {ctX_PlanError : Value} {ocX_PlanError : Value} {odX_PlanError : Option Addr} {slX_PlanError : Array (Option Value)} {cdaX_PlanError : Addr} {ccX_PlanError : Addr} {cclX_PlanError : Value} {cddX_PlanError : Option Addr} {vsX_PlanError : Array Value} {ccsX_PlanError : Array (Option Value)} {fileX_PlanError : Str} {tfX_PlanError : Tok} {clX_PlanError : Value} {cldX_PlanError : Option Addr} {cslX_PlanError : Array (Option Value)} {cdX_PlanError : ClassData} {cdTX_PlanError : ClassData} {aTX_PlanError : Addr}
    (lx_PlanError : K.lookup aX_PlanError = some (excClassObj nmX_PlanError qX_PlanError aX_PlanError NX_PlanError bsX_PlanError bmX_PlanError true snX_PlanError subX_PlanError abX_PlanError colX_PlanError ddX_PlanError k0X_PlanError k1X_PlanError k2X_PlanError k3X_PlanError k5X_PlanError "ValueError.__new__"))
    (rv_PlanError : PySem.HandSPX.refsVE bmX_PlanError = true)
    (sa_PlanError : PySem.W.findIn K (.ref aX_PlanError) "__setattr__" = some (some (.builtin "object.__setattr__")))
    (kx_PlanError : PySem.W.keepIn K (.ref aX_PlanError) = true)
    (ix_PlanError : PySem.W.findIn K (.ref aX_PlanError) "__init__" = some (some (.ref aI_PlanError)))
    (yi_PlanError : PySem.W.typeIn K (.ref aI_PlanError) = some (.type "function"))
    (li_PlanError : K.lookup aI_PlanError = some ⟨ocX_PlanError, odX_PlanError, .func (PySem.W.ksFn "__init__" "PlanError.__init__" (defArgs sI_PlanError) (defBody sI_PlanError) (defScope sI_PlanError) Value.none kVX_PlanError dcX_PlanError pmX_PlanError anX_PlanError (.ref cdaX_PlanError) ctX_PlanError ccX_PlanError), slX_PlanError⟩)
    (ci_PlanError : PySem.W.codeIn K (.ref cdaX_PlanError) "PlanError.__init__" = true)
    (ld_PlanError : K.lookup cdaX_PlanError = some ⟨cclX_PlanError, cddX_PlanError, .fields vsX_PlanError, ccsX_PlanError⟩)
    (v_PlanError : vsX_PlanError[2]? = some (.str fileX_PlanError tfX_PlanError))
    (fi_PlanError : ((l.prog.main.file : Str) == fileX_PlanError) = true)
    (lc_PlanError : K.lookup ccX_PlanError = some ⟨clX_PlanError, cldX_PlanError, .cell (some (.ref aX_PlanError)), cslX_PlanError⟩)
    (cl_PlanError : PySem.W.clsIn K aX_PlanError = some cdX_PlanError)
    (pT_PlanError : PySem.W.nsIn K mainGlobals "TidyError" = some (some (.ref aTX_PlanError)))
    (cT_PlanError : PySem.W.clsIn K aTX_PlanError = some cdTX_PlanError)
    (mr_PlanError : cdX_PlanError.mro = .ref aX_PlanError :: cdTX_PlanError.mro)
    (fT_PlanError : PySem.W.findIn K (.ref aTX_PlanError) "__init__" = some (some (.builtin "ValueError.__init__")))
    (sv_PlanError : PySem.W.subIn K (.ref aX_PlanError) (.type "ValueError") = some true)
    (ga_PlanError : PySem.W.findIn K (.ref aX_PlanError) "__getattribute__" = some (some (.builtin "BaseException.__getattribute__")))
    (gg_PlanError : PySem.W.findIn K (.ref aX_PlanError) "__getattr__" = some none)
    (no_PlanError_what : PySem.W.findIn K (.ref aX_PlanError) "what" = some none)
    (no_PlanError_place : PySem.W.findIn K (.ref aX_PlanError) "place" = some none)
    {nmX_JoinError : Str} {qX_JoinError : Str} {NX_JoinError : Addr} {bsX_JoinError : List Value} {bmX_JoinError : List Value} {snX_JoinError : List Str} {subX_JoinError : List Value} {abX_JoinError : Bool} {colX_JoinError : Option Bool} {ddX_JoinError : Option Addr} {k0X_JoinError : Option Value} {k1X_JoinError : Option Value} {k2X_JoinError : Option Value} {k3X_JoinError : Option Value} {k5X_JoinError : Option Value} {kVX_JoinError : Value} {dcX_JoinError : Value} {pmX_JoinError : Value} {anX_JoinError : Option Addr} {ctX_JoinError : Value} {ocX_JoinError : Value} {odX_JoinError : Option Addr} {slX_JoinError : Array (Option Value)} {cdaX_JoinError : Addr} {ccX_JoinError : Addr} {cclX_JoinError : Value} {cddX_JoinError : Option Addr} {vsX_JoinError : Array Value} {ccsX_JoinError : Array (Option Value)} {fileX_JoinError : Str} {tfX_JoinError : Tok} {clX_JoinError : Value} {cldX_JoinError : Option Addr} {cslX_JoinError : Array (Option Value)} {cdX_JoinError : ClassData} {cdTX_JoinError : ClassData} {aTX_JoinError : Addr}
    (lx_JoinError : K.lookup aX_JoinError = some (excClassObj nmX_JoinError qX_JoinError aX_JoinError NX_JoinError bsX_JoinError bmX_JoinError true snX_JoinError subX_JoinError abX_JoinError colX_JoinError ddX_JoinError k0X_JoinError k1X_JoinError k2X_JoinError k3X_JoinError k5X_JoinError "ValueError.__new__"))
    (rv_JoinError : PySem.HandSPX.refsVE bmX_JoinError = true)
    (sa_JoinError : PySem.W.findIn K (.ref aX_JoinError) "__setattr__" = some (some (.builtin "object.__setattr__")))
    (kx_JoinError : PySem.W.keepIn K (.ref aX_JoinError) = true)
    (ix_JoinError : PySem.W.findIn K (.ref aX_JoinError) "__init__" = some (some (.ref aI_JoinError)))
    (yi_JoinError : PySem.W.typeIn K (.ref aI_JoinError) = some (.type "function"))
    (li_JoinError : K.lookup aI_JoinError = some ⟨ocX_JoinError, odX_JoinError, .func (PySem.W.ksFn "__init__" "JoinError.__init__" (defArgs sI_JoinError) (defBody sI_JoinError) (defScope sI_JoinError) Value.none kVX_JoinError dcX_JoinError pmX_JoinError anX_JoinError (.ref cdaX_JoinError) ctX_JoinError ccX_JoinError), slX_JoinError⟩)
    (ci_JoinError : PySem.W.codeIn K (.ref cdaX_JoinError) "JoinError.__init__" = true)
    (ld_JoinError : K.lookup cdaX_JoinError = some ⟨cclX_JoinError, cddX_JoinError, .fields vsX_JoinError, ccsX_JoinError⟩)
    (v_JoinError : vsX_JoinError[2]? = some (.str fileX_JoinError tfX_JoinError))
    (fi_JoinError : ((l.prog.main.file : Str) == fileX_JoinError) = true)
    (lc_JoinError : K.lookup ccX_JoinError = some ⟨clX_JoinError, cldX_JoinError, .cell (some (.ref aX_JoinError)), cslX_JoinError⟩)
    (cl_JoinError : PySem.W.clsIn K aX_JoinError = some cdX_JoinError)
    (pT_JoinError : PySem.W.nsIn K mainGlobals "TidyError" = some (some (.ref aTX_JoinError)))
    (cT_JoinError : PySem.W.clsIn K aTX_JoinError = some cdTX_JoinError)
    (mr_JoinError : cdX_JoinError.mro = .ref aX_JoinError :: cdTX_JoinError.mro)
    (fT_JoinError : PySem.W.findIn K (.ref aTX_JoinError) "__init__" = some (some (.builtin "ValueError.__init__")))
    (sv_JoinError : PySem.W.subIn K (.ref aX_JoinError) (.type "ValueError") = some true)
    (ga_JoinError : PySem.W.findIn K (.ref aX_JoinError) "__getattribute__" = some (some (.builtin "BaseException.__getattribute__")))
    (gg_JoinError : PySem.W.findIn K (.ref aX_JoinError) "__getattr__" = some none)
    (no_JoinError_what : PySem.W.findIn K (.ref aX_JoinError) "what" = some none)
    (no_JoinError_place : PySem.W.findIn K (.ref aX_JoinError) "place" = some none)
    (ac_PlanError : PySem.W.findIn K (.ref aX_PlanError) "__class__" = some (some (.builtin "object.__class__")))
    (mo_PlanError : PySem.W.mroIn K aX_PlanError (.type "object") = some true)
    (ac_JoinError : PySem.W.findIn K (.ref aX_JoinError) "__class__" = some (some (.builtin "object.__class__")))
    (mo_JoinError : PySem.W.mroIn K aX_JoinError (.type "object") = some true)
    (sn0 : PySem.W.specialIn K (.builtin "object.__class__") "__get__" = some (some (.builtin "getset_descriptor.__get__")))
    (tk0 : PySem.W.takesIn K (.builtin "object.__class__") = some true)
    (opq : PySem.W.nsIn K PySem.cStatics "thirdparty.any" = some none)
    (zsup : PySem.W.nsIn K mainGlobals "super" = some none)
    (top : (l.prog.main.scope.names.lookup ("super" : Str)).isSome = false) :
    ∃ fd : FuncData, (∀ (s : Shared) (v : Value), BindsTo s fd ⟨[v], []⟩ [("_law_script", v)]) ∧ ∀ base : Heap, K.In base → base.Ns mainGlobals mg → FnOk l.prog w K mg base (L2.CX l.prog w) 7 fa fd ["_law_script"] (spTrue K) := by
  have e := hfa.symm.trans (PySem.W.mg_of X G p_law)
  cases e
  have T : Txt K mg (caX aX_PlanError aX_JoinError) a__law_cell a__law_draw a__law_rows a_is_possible a_moved a_walk a_task_of a_check_plan a_check_links a_input_names a_led a_put_together a_joined a_joined_plan a__law_told fa aX_TidyError aX_PlanError aX_CodeError aX_JoinError aI_PlanError aI_JoinError := ⟨PySem.W.mg_of X G px_TidyError, PySem.W.mg_of X G px_PlanError, PySem.W.mg_of X G px_CodeError, PySem.W.mg_of X G px_JoinError, (fun c b h => by unfold mt_TidyError at h; split at h <;> cases h <;> first | exact exm_mk eb_TidyError hd_TidyError ty_TidyError sb_PlanError_TidyError | exact exm_mk eb_TidyError hd_TidyError ty_TidyError sb_JoinError_TidyError), (fun c b h => by unfold tk_JoinError at h; split at h <;> cases h <;> first | exact ⟨⟨ga_PlanError, gg_PlanError, eb_PlanError, hd_PlanError, ac_PlanError, sn0, tk0, mo_PlanError⟩, kit_mk hd_JoinError ty_JoinError ss_JoinError sb_PlanError_JoinError⟩ | exact ⟨⟨ga_JoinError, gg_JoinError, eb_JoinError, hd_JoinError, ac_JoinError, sn0, tk0, mo_JoinError⟩, kit_mk hd_JoinError ty_JoinError ss_JoinError sb_JoinError_JoinError⟩), (fun c b h => by unfold tk_PlanError at h; split at h <;> cases h <;> first | exact ⟨⟨ga_PlanError, gg_PlanError, eb_PlanError, hd_PlanError, ac_PlanError, sn0, tk0, mo_PlanError⟩, kit_mk hd_PlanError ty_PlanError ss_PlanError sb_PlanError_PlanError⟩ | exact ⟨⟨ga_JoinError, gg_JoinError, eb_JoinError, hd_JoinError, ac_JoinError, sn0, tk0, mo_JoinError⟩, kit_mk hd_PlanError ty_PlanError ss_PlanError sb_JoinError_PlanError⟩), (fun c b h => by unfold tk_CodeError at h; split at h <;> cases h <;> first | exact ⟨⟨ga_PlanError, gg_PlanError, eb_PlanError, hd_PlanError, ac_PlanError, sn0, tk0, mo_PlanError⟩, kit_mk hd_CodeError ty_CodeError ss_CodeError sb_PlanError_CodeError⟩ | exact ⟨⟨ga_JoinError, gg_JoinError, eb_JoinError, hd_JoinError, ac_JoinError, sn0, tk0, mo_JoinError⟩, kit_mk hd_CodeError ty_CodeError ss_CodeError sb_JoinError_CodeError⟩), (fun c h => by unfold cs_place at h; split at h <;> first | exact absurd h (by decide) | exact ⟨⟨ga_PlanError, gg_PlanError, eb_PlanError, hd_PlanError⟩, no_PlanError_place⟩ | exact ⟨⟨ga_JoinError, gg_JoinError, eb_JoinError, hd_JoinError⟩, no_JoinError_place⟩), (fun c h => by unfold cs_what at h; split at h <;> first | exact absurd h (by decide) | exact ⟨⟨ga_PlanError, gg_PlanError, eb_PlanError, hd_PlanError⟩, no_PlanError_what⟩ | exact ⟨⟨ga_JoinError, gg_JoinError, eb_JoinError, hd_JoinError⟩, no_JoinError_what⟩), PySem.W.mg_of X G px_PlanError, oex_mk lx_PlanError rv_PlanError sa_PlanError eb_PlanError ty_PlanError kx_PlanError, ix_PlanError, yi_PlanError, no_PlanError_what, no_PlanError_place, PySem.W.mg_of X G px_JoinError, oex_mk lx_JoinError rv_JoinError sa_JoinError eb_JoinError ty_JoinError kx_JoinError, ix_JoinError, yi_JoinError, no_JoinError_what, no_JoinError_place, PySem.W.mg_of X G p__law_cell, k__law_cell, PySem.W.mg_of X G p__law_draw, k__law_draw, PySem.W.mg_of X G p__law_rows, k__law_rows, PySem.W.mg_of X G p_is_possible, k_is_possible, PySem.W.mg_of X G p_moved, k_moved, PySem.W.mg_of X G p_walk, k_walk, PySem.W.mg_of X G p_task_of, k_task_of, PySem.W.mg_of X G p_check_plan, k_check_plan, PySem.W.mg_of X G p_check_links, k_check_links, PySem.W.mg_of X G p_input_names, k_input_names, PySem.W.mg_of X G p_led, k_led, PySem.W.mg_of X G p_put_together, k_put_together, PySem.W.mg_of X G p_joined, k_joined, PySem.W.mg_of X G p_joined_plan, k_joined_plan, PySem.W.mg_of X G p__law_told, k__law_told, PySem.W.mg_of X G p_law, k_law, PySem.W.mg_none_of X G z_int, PySem.W.mg_none_of X G z_isinstance, PySem.W.mg_none_of X G z_len, PySem.W.mg_none_of X G z_list, PySem.W.mg_none_of X G z_max, PySem.W.mg_none_of X G z_min, PySem.W.mg_none_of X G z_range, PySem.W.mg_none_of X G z_set, PySem.W.mg_none_of X G z_sorted, PySem.W.mg_none_of X G z_str, PySem.W.mg_none_of X G z_tuple, ⟨_, PySem.W.mg_of X G q_INPUTS⟩, ⟨_, PySem.W.mg_of X G q_MOVES⟩, ⟨_, PySem.W.mg_of X G q_STEPS⟩⟩
  have f__law_cell := fun_mk (st := s__law_cell) l__law_cell c__law_cell k__law_cell
  have b__law_cell := f__law_cell.binds (ps := ["_law_script", "_law_k"]) fun _ _ _ _ _ _ us hl => match us, hl with | [_, _], _ => rfl
  have f__law_draw := fun_mk (st := s__law_draw) l__law_draw c__law_draw k__law_draw
  have b__law_draw := f__law_draw.binds (ps := ["_law_script", "_law_k", "_law_sizes"]) fun _ _ _ _ _ _ us hl => match us, hl with | [_, _, _], _ => rfl
  have f__law_rows := fun_mk (st := s__law_rows) l__law_rows c__law_rows k__law_rows
  have b__law_rows := f__law_rows.binds (ps := ["_law_count", "_law_inputs", "_law_last"]) fun _ _ _ _ _ _ us hl => match us, hl with | [_, _, _], _ => rfl
  have f_is_possible := fun_mk (st := s_is_possible) l_is_possible c_is_possible k_is_possible
  have b_is_possible := f_is_possible.binds (ps := ["task", "configuration", "move"]) fun _ _ _ _ _ _ us hl => match us, hl with | [_, _, _], _ => rfl
  have f_moved := fun_mk (st := s_moved) l_moved c_moved k_moved
  have b_moved := f_moved.binds (ps := ["configuration", "move"]) fun _ _ _ _ _ _ us hl => match us, hl with | [_, _], _ => rfl
  have f_walk : FunD K "walk" "walk" (defArgs s_walk) (defBody s_walk) (defScope s_walk) [] ([("start", .ref T_walk_start)] : List (Str × V)) a_walk _ := fund_mk l_walk c_walk k_walk (kd_cons d_walk_start rfl kd_nil)
  have b_walk_0 : DBn K _ ["task", "plan", "start"] [.tuple []] := ⟨_, f_walk.binds0 2 (by simp) rfl (fun _ _ _ _ _ _ us ks h1 h2 => match us, ks, h1, h2 with | [_, _], [_], _, _ => ⟨_, _, _, _, _, _, rfl, rfl, rfl⟩), (still_cons (still_tup0 e_walk_start) still_nil)⟩
  have f_task_of := fun_mk (st := s_task_of) l_task_of c_task_of k_task_of
  have b_task_of := f_task_of.binds (ps := ["program"]) fun _ _ _ _ _ _ us hl => match us, hl with | [_], _ => rfl
  have f_check_plan := fun_mk (st := s_check_plan) l_check_plan c_check_plan k_check_plan
  have b_check_plan := f_check_plan.binds (ps := ["program", "plan"]) fun _ _ _ _ _ _ us hl => match us, hl with | [_, _], _ => rfl
  have f_check_links := fun_mk (st := s_check_links) l_check_links c_check_links k_check_links
  have b_check_links := f_check_links.binds (ps := ["first", "second", "links"]) fun _ _ _ _ _ _ us hl => match us, hl with | [_, _, _], _ => rfl
  have f_input_names := fun_mk (st := s_input_names) l_input_names c_input_names k_input_names
  have b_input_names := f_input_names.binds (ps := ["first", "links"]) fun _ _ _ _ _ _ us hl => match us, hl with | [_, _], _ => rfl
  have f_led := fun_mk (st := s_led) l_led c_led k_led
  have b_led := f_led.binds (ps := ["operand", "names", "places"]) fun _ _ _ _ _ _ us hl => match us, hl with | [_, _, _], _ => rfl
  have f_put_together := fun_mk (st := s_put_together) l_put_together c_put_together k_put_together
  have b_put_together := f_put_together.binds (ps := ["first", "second", "links"]) fun _ _ _ _ _ _ us hl => match us, hl with | [_, _, _], _ => rfl
  have f_joined : FunD K "joined" "joined" (defArgs s_joined) (defBody s_joined) (defScope s_joined) [] ([("keep", .bl false)] : List (Str × V)) a_joined _ := fund_mk l_joined c_joined k_joined (kd_cons d_joined_keep rfl kd_nil)
  have b_joined_keep : KDB K _ ["first", "second", "links", "keep"] 3 ["keep"] [] := ⟨_, f_joined.kbinds0 3 ["keep"] ([] : List (Str × V)) (fun us mv ws => us ++ (ws ++ mv)) (by simp) (by simp) (fun h1 h2 h3 => h1.append (h3.append h2)) (fun _ _ _ _ _ _ us mv ws h1 h2 h3 => match us, mv, ws, h1, h2, h3 with | [_, _, _], [], [_], _, _, _ => rfl), still_nil⟩
  have f_joined_plan : FunD K "joined_plan" "joined_plan" (defArgs s_joined_plan) (defBody s_joined_plan) (defScope s_joined_plan) [] ([("keep", .bl false)] : List (Str × V)) a_joined_plan _ := fund_mk l_joined_plan c_joined_plan k_joined_plan (kd_cons d_joined_plan_keep rfl kd_nil)
  have b_joined_plan_keep : KDB K _ ["first", "second", "links", "plan", "other", "keep"] 5 ["keep"] [] := ⟨_, f_joined_plan.kbinds0 5 ["keep"] ([] : List (Str × V)) (fun us mv ws => us ++ (ws ++ mv)) (by simp) (by simp) (fun h1 h2 h3 => h1.append (h3.append h2)) (fun _ _ _ _ _ _ us mv ws h1 h2 h3 => match us, mv, ws, h1, h2, h3 with | [_, _, _, _, _], [], [_], _, _, _ => rfl), still_nil⟩
  have f__law_told := fun_mk (st := s__law_told) l__law_told c__law_told k__law_told
  have b__law_told := f__law_told.binds (ps := ["_law_kind", "_law_first", "_law_second", "_law_links", "_law_plans", "_law_keep"]) fun _ _ _ _ _ _ us hl => match us, hl with | [_, _, _, _, _, _], _ => rfl
  have f_law := fun_mk (st := s_law) l_law c_law k_law
  refine ⟨PySem.W.fnOf "law" "law" (defArgs s_law) (defBody s_law) (defScope s_law) .none kV_law dc_law pm_law an_law cd_law ct_law, fun s v => .of_eq rfl, fun base _ _ => ?_⟩
  have GX_PlanError := okX_PlanError (P := l.prog) (w := w) (base := base) (mg := mg) (ca := (caX aX_PlanError aX_JoinError)) (fd := PySem.W.ksFn "__init__" "PlanError.__init__" (defArgs sI_PlanError) (defBody sI_PlanError) (defScope sI_PlanError) Value.none kVX_PlanError dcX_PlanError pmX_PlanError anX_PlanError (.ref cdaX_PlanError) ctX_PlanError ccX_PlanError) (cc := ccX_PlanError) (cdv := .ref cdaX_PlanError) ⟨oex_mk lx_PlanError rv_PlanError sa_PlanError eb_PlanError ty_PlanError kx_PlanError, ⟨_, _, _, _, _, _, _, _, _, rfl, li_PlanError⟩, ci_PlanError, ⟨_, _, _, _, _, _, _, rfl, ld_PlanError, v_PlanError, fi_PlanError⟩, ⟨_, _, _, lc_PlanError⟩, ⟨_, _, _, cl_PlanError, cT_PlanError, mr_PlanError, fT_PlanError⟩, sv_PlanError, opq, PySem.W.mg_none_of X G zsup, top⟩
  have bX_PlanError : Binds K (PySem.W.ksFn "__init__" "PlanError.__init__" (defArgs sI_PlanError) (defBody sI_PlanError) (defScope sI_PlanError) Value.none kVX_PlanError dcX_PlanError pmX_PlanError anX_PlanError (.ref cdaX_PlanError) ctX_PlanError ccX_PlanError) ["self", "what", "place"] [] := .all fun us hl => match us, hl with | [_, _, _], _ => rfl
  have GX_JoinError := okX_JoinError (P := l.prog) (w := w) (base := base) (mg := mg) (ca := (caX aX_PlanError aX_JoinError)) (fd := PySem.W.ksFn "__init__" "JoinError.__init__" (defArgs sI_JoinError) (defBody sI_JoinError) (defScope sI_JoinError) Value.none kVX_JoinError dcX_JoinError pmX_JoinError anX_JoinError (.ref cdaX_JoinError) ctX_JoinError ccX_JoinError) (cc := ccX_JoinError) (cdv := .ref cdaX_JoinError) ⟨oex_mk lx_JoinError rv_JoinError sa_JoinError eb_JoinError ty_JoinError kx_JoinError, ⟨_, _, _, _, _, _, _, _, _, rfl, li_JoinError⟩, ci_JoinError, ⟨_, _, _, _, _, _, _, rfl, ld_JoinError, v_JoinError, fi_JoinError⟩, ⟨_, _, _, lc_JoinError⟩, ⟨_, _, _, cl_JoinError, cT_JoinError, mr_JoinError, fT_JoinError⟩, sv_JoinError, opq, PySem.W.mg_none_of X G zsup, top⟩
  have bX_JoinError : Binds K (PySem.W.ksFn "__init__" "JoinError.__init__" (defArgs sI_JoinError) (defBody sI_JoinError) (defScope sI_JoinError) Value.none kVX_JoinError dcX_JoinError pmX_JoinError anX_JoinError (.ref cdaX_JoinError) ctX_JoinError ccX_JoinError) ["self", "what", "place"] [] := .all fun us hl => match us, hl with | [_, _, _], _ => rfl
  have G__law_cell := ok__law_cell (P := l.prog) (w := w) (base := base) (ca := (caX aX_PlanError aX_JoinError)) T  f__law_cell
  have G__law_draw := ok__law_draw (P := l.prog) (w := w) (base := base) (ca := (caX aX_PlanError aX_JoinError)) T G__law_cell b__law_cell f__law_draw
  have G__law_rows := ok__law_rows (P := l.prog) (w := w) (base := base) (ca := (caX aX_PlanError aX_JoinError)) T  f__law_rows
  have G_is_possible := ok_is_possible (P := l.prog) (w := w) (base := base) (ca := (caX aX_PlanError aX_JoinError)) T  f_is_possible
  have G_moved := ok_moved (P := l.prog) (w := w) (base := base) (ca := (caX aX_PlanError aX_JoinError)) T  f_moved
  have G_walk := ok_walk (P := l.prog) (w := w) (base := base) (ca := (caX aX_PlanError aX_JoinError)) T G_is_possible b_is_possible G_moved b_moved GX_PlanError bX_PlanError f_walk
  have G_task_of := ok_task_of (P := l.prog) (w := w) (base := base) (ca := (caX aX_PlanError aX_JoinError)) T  f_task_of
  have G_check_plan := ok_check_plan (P := l.prog) (w := w) (base := base) (ca := (caX aX_PlanError aX_JoinError)) T G_walk b_walk_0 G_task_of b_task_of GX_PlanError bX_PlanError f_check_plan
  have G_check_links := ok_check_links (P := l.prog) (w := w) (base := base) (ca := (caX aX_PlanError aX_JoinError)) T GX_JoinError bX_JoinError f_check_links
  have G_input_names := ok_input_names (P := l.prog) (w := w) (base := base) (ca := (caX aX_PlanError aX_JoinError)) T  f_input_names
  have G_led := ok_led (P := l.prog) (w := w) (base := base) (ca := (caX aX_PlanError aX_JoinError)) T  f_led
  have G_put_together := ok_put_together (P := l.prog) (w := w) (base := base) (ca := (caX aX_PlanError aX_JoinError)) T G_input_names b_input_names G_led b_led f_put_together
  have G_joined := ok_joined (P := l.prog) (w := w) (base := base) (ca := (caX aX_PlanError aX_JoinError)) T G_check_links b_check_links G_put_together b_put_together GX_JoinError bX_JoinError f_joined
  have G_joined_plan := ok_joined_plan (P := l.prog) (w := w) (base := base) (ca := (caX aX_PlanError aX_JoinError)) T G_check_plan b_check_plan G_joined b_joined_keep G_put_together b_put_together GX_JoinError bX_JoinError f_joined_plan
  have G__law_told := ok__law_told (P := l.prog) (w := w) (base := base) (ca := (caX aX_PlanError aX_JoinError)) T G_joined b_joined_keep G_joined_plan b_joined_plan_keep f__law_told
  have G_law := ok_law (P := l.prog) (w := w) (base := base) (ca := (caX aX_PlanError aX_JoinError)) T G__law_draw b__law_draw G__law_rows b__law_rows G__law_told b__law_told f_law
  exact G_law.imp fun vs H Q E h => law_true law_holds vs H Q E h
end My
open PySem PySem.W PyProof.Rows
set_option maxHeartbeats 0 in
theorem PySem.Challenge.cw_tidyback_k31_limits_of_joined_programs_holds : PySem.Challenge.rw_tidyback_k31_limits_of_joined_programs.Holds := by
  w_on; o_law; k_head; (case hw => w_witness2)
  k_fill
  refine L2.walk_of (l := PySem.Challenge.rw_tidyback_k31_limits_of_joined_programs) (n := 63) (k := 7) (x := "_law_script") (CX := fun w => L2.CX PySem.Challenge.rw_tidyback_k31_limits_of_joined_programs.prog w) (sp := fun w => VL.spTrue _) rfl (by decide) rfl ⟨rfl, by decide, by decide⟩ (fun w h Y => PySem.W.kIn_of Y) ?F (fun _ _ a ns hl _ hS => ⟨a, ns, rfl, hS, hl, fun _ => rfl⟩) (fun _ _ _ _ _ h => by
    obtain ⟨_, _, _, _, _, _, _, _, _, _, _, _, z⟩ := h
    exact z)
  case F =>
    intro w mg fa h KX G hmg
    refine' My.all_mk KX G hmg ?p__law_cell ?l__law_cell ?c__law_cell ?k__law_cell ?p__law_draw ?l__law_draw ?c__law_draw ?k__law_draw ?p__law_rows ?l__law_rows ?c__law_rows ?k__law_rows ?p_is_possible ?l_is_possible ?c_is_possible ?k_is_possible ?p_moved ?l_moved ?c_moved ?k_moved ?p_walk ?l_walk ?c_walk ?k_walk ?d_walk_start ?e_walk_start ?p_task_of ?l_task_of ?c_task_of ?k_task_of ?p_check_plan ?l_check_plan ?c_check_plan ?k_check_plan ?p_check_links ?l_check_links ?c_check_links ?k_check_links ?p_input_names ?l_input_names ?c_input_names ?k_input_names ?p_led ?l_led ?c_led ?k_led ?p_put_together ?l_put_together ?c_put_together ?k_put_together ?p_joined ?l_joined ?c_joined ?k_joined ?d_joined_keep ?p_joined_plan ?l_joined_plan ?c_joined_plan ?k_joined_plan ?d_joined_plan_keep ?p__law_told ?l__law_told ?c__law_told ?k__law_told ?p_law ?l_law ?c_law ?k_law ?z_int ?z_isinstance ?z_len ?z_list ?z_max ?z_min ?z_range ?z_set ?z_sorted ?z_str ?z_tuple ?q_INPUTS ?q_MOVES ?q_STEPS ?px_TidyError ?eb_TidyError ?hd_TidyError ?ty_TidyError ?px_PlanError ?eb_PlanError ?hd_PlanError ?ty_PlanError ?px_CodeError ?eb_CodeError ?hd_CodeError ?ty_CodeError ?px_JoinError ?eb_JoinError ?hd_JoinError ?ty_JoinError ?ss_JoinError ?ss_PlanError ?ss_CodeError ?sb_PlanError_TidyError ?sb_JoinError_TidyError ?sb_PlanError_PlanError ?sb_JoinError_PlanError ?sb_PlanError_CodeError ?sb_JoinError_CodeError ?sb_PlanError_JoinError ?sb_JoinError_JoinError ?lx_PlanError ?rv_PlanError ?sa_PlanError ?kx_PlanError ?ix_PlanError ?yi_PlanError ?li_PlanError ?ci_PlanError ?ld_PlanError ?v_PlanError ?fi_PlanError ?lc_PlanError ?cl_PlanError ?pT_PlanError ?cT_PlanError ?mr_PlanError ?fT_PlanError ?sv_PlanError ?ga_PlanError ?gg_PlanError ?no_PlanError_what ?no_PlanError_place ?lx_JoinError ?rv_JoinError ?sa_JoinError ?kx_JoinError ?ix_JoinError ?yi_JoinError ?li_JoinError ?ci_JoinError ?ld_JoinError ?v_JoinError ?fi_JoinError ?lc_JoinError ?cl_JoinError ?pT_JoinError ?cT_JoinError ?mr_JoinError ?fT_JoinError ?sv_JoinError ?ga_JoinError ?gg_JoinError ?no_JoinError_what ?no_JoinError_place ?ac_PlanError ?mo_PlanError ?ac_JoinError ?mo_JoinError ?sn0 ?tk0 ?opq ?zsup ?top
    (case p__law_cell => k_is); (case l__law_cell => k_is); (case c__law_cell => k_is); (case k__law_cell => k_is); (case p__law_draw => k_is); (case l__law_draw => k_is); (case c__law_draw => k_is); (case k__law_draw => k_is); (case p__law_rows => k_is); (case l__law_rows => k_is); (case c__law_rows => k_is); (case k__law_rows => k_is); (case p_is_possible => k_is); (case l_is_possible => k_is); (case c_is_possible => k_is); (case k_is_possible => k_is); (case p_moved => k_is); (case l_moved => k_is); (case c_moved => k_is); (case k_moved => k_is); (case p_walk => k_is); (case l_walk => k_is); (case c_walk => k_is); (case k_walk => k_is); (case d_walk_start => k_is); (case e_walk_start => k_is); (case p_task_of => k_is); (case l_task_of => k_is); (case c_task_of => k_is); (case k_task_of => k_is); (case p_check_plan => k_is); (case l_check_plan => k_is); (case c_check_plan => k_is); (case k_check_plan => k_is); (case p_check_links => k_is); (case l_check_links => k_is); (case c_check_links => k_is); (case k_check_links => k_is); (case p_input_names => k_is); (case l_input_names => k_is); (case c_input_names => k_is); (case k_input_names => k_is); (case p_led => k_is); (case l_led => k_is); (case c_led => k_is); (case k_led => k_is); (case p_put_together => k_is); (case l_put_together => k_is); (case c_put_together => k_is); (case k_put_together => k_is); (case p_joined => k_is); (case l_joined => k_is); (case c_joined => k_is); (case k_joined => k_is); (case d_joined_keep => k_is); (case p_joined_plan => k_is); (case l_joined_plan => k_is); (case c_joined_plan => k_is); (case k_joined_plan => k_is); (case d_joined_plan_keep => k_is); (case p__law_told => k_is); (case l__law_told => k_is); (case c__law_told => k_is); (case k__law_told => k_is); (case p_law => k_is); (case l_law => k_is); (case c_law => k_is); (case k_law => k_is); (case z_int => k_is); (case z_isinstance => k_is); (case z_len => k_is); (case z_list => k_is); (case z_max => k_is); (case z_min => k_is); (case z_range => k_is); (case z_set => k_is); (case z_sorted => k_is); (case z_str => k_is); (case z_tuple => k_is); (case q_INPUTS => k_is); (case q_MOVES => k_is); (case q_STEPS => k_is); (case px_TidyError => k_is); (case eb_TidyError => k_is); (case hd_TidyError => k_is); (case ty_TidyError => k_is); (case px_PlanError => k_is); (case eb_PlanError => k_is); (case hd_PlanError => k_is); (case ty_PlanError => k_is); (case px_CodeError => k_is); (case eb_CodeError => k_is); (case hd_CodeError => k_is); (case ty_CodeError => k_is); (case px_JoinError => k_is); (case eb_JoinError => k_is); (case hd_JoinError => k_is); (case ty_JoinError => k_is); (case ss_JoinError => k_is); (case ss_PlanError => k_is); (case ss_CodeError => k_is); (case sb_PlanError_TidyError => k_is); (case sb_JoinError_TidyError => k_is); (case sb_PlanError_PlanError => k_is); (case sb_JoinError_PlanError => k_is); (case sb_PlanError_CodeError => k_is); (case sb_JoinError_CodeError => k_is); (case sb_PlanError_JoinError => k_is); (case sb_JoinError_JoinError => k_is); (case lx_PlanError => k_is); (case rv_PlanError => rfl); (case sa_PlanError => k_is); (case kx_PlanError => k_is); (case ix_PlanError => k_is); (case yi_PlanError => k_is); (case li_PlanError => k_is); (case ci_PlanError => k_is); (case ld_PlanError => k_is); (case v_PlanError => rfl); (case fi_PlanError => (first | rfl | decide +kernel)); (case lc_PlanError => k_is); (case cl_PlanError => k_is); (case pT_PlanError => k_is); (case cT_PlanError => k_is); (case mr_PlanError => rfl); (case fT_PlanError => k_is); (case sv_PlanError => k_is); (case ga_PlanError => k_is); (case gg_PlanError => k_is); (case no_PlanError_what => k_is); (case no_PlanError_place => k_is); (case lx_JoinError => k_is); (case rv_JoinError => rfl); (case sa_JoinError => k_is); (case kx_JoinError => k_is); (case ix_JoinError => k_is); (case yi_JoinError => k_is); (case li_JoinError => k_is); (case ci_JoinError => k_is); (case ld_JoinError => k_is); (case v_JoinError => rfl); (case fi_JoinError => (first | rfl | decide +kernel)); (case lc_JoinError => k_is); (case cl_JoinError => k_is); (case pT_JoinError => k_is); (case cT_JoinError => k_is); (case mr_JoinError => rfl); (case fT_JoinError => k_is); (case sv_JoinError => k_is); (case ga_JoinError => k_is); (case gg_JoinError => k_is); (case no_JoinError_what => k_is); (case no_JoinError_place => k_is); (case ac_PlanError => k_is); (case mo_PlanError => k_is); (case ac_JoinError => k_is); (case mo_JoinError => k_is); (case sn0 => k_is); (case tk0 => k_is); (case opq => k_is); (case zsup => k_is); (case top => (first | rfl | decide +kernel))
#print axioms PySem.Challenge.cw_tidyback_k31_limits_of_joined_programs_holds
