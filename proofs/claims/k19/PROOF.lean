import PyProof.Rows.All
import Wide.All
import OpenK.AllK
import Wide.FinOn
import HandS.ForMost
import HandS.Exc
import HandS.TryOnly
import HandS.ExcOwn
import HandS.WordsExc
import HandS.CallSlots
import HandS.Deep
import HandS.TupAny
import HandS.SortInts
import HandS.Style
import HandS.IsInst
import HandS.Iter
import HandS.Defaults
import HandS.MakeKwOnly
import HandS.Dict
import KE.KDictDisplayH
import KE.KExcSuper
import HandS.ExcInit
import HandS.ExcField
import HandS.ExcSuper
import KE.KExcIs
import HandS.SortRule
import HandS.DictSubView
import KE.KDictWalk
import PySem.Challenge.RW_tidyback_k19_right_certificates_are_true
set_option Elab.async false
set_option linter.all false
set_option maxRecDepth 100000
set_option maxHeartbeats 8000000
namespace VL
open PySem PySem.Spec PyProof.Rows L2

/-! ## data and results -/
inductive Rs (α : Type) where
  | ok (a : α)
  | ex (c : Nat) (fs : List (Str × PyData))
  | no
def Rs.bind {α β : Type} : Rs α → (α → Rs β) → Rs β
  | .ok a, f => f a
  | .ex c fs, _ => .ex c fs
  | .no, _ => .no
@[simp] theorem Rs.bind_ok {α β : Type} (a : α) (f : α → Rs β) : (Rs.ok a).bind f = f a := rfl
@[simp] theorem Rs.bind_ex {α β : Type} (c fs) (f : α → Rs β) : (Rs.ex c fs : Rs α).bind f = .ex c fs := rfl
@[simp] theorem Rs.bind_no {α β : Type} (f : α → Rs β) : (Rs.no : Rs α).bind f = .no := rfl

/-- what an expression comes to: plain data; a list, a dict of its own (o), or borrowed of a slot (b); the script -/
inductive RV where
  | d (x : PyData)
  | ol (xs : List PyData) | bl (xs : List PyData)
  | od (kvs : List (Key × PyData)) | bd (kvs : List (Key × PyData))
  | ot (kvs : List (List Int × PyData)) | bt (kvs : List (List Int × PyData))
  | sc (ns : List Int)
  /-- a caught exception: where it lies, its dict, its class, its fields -/
  | xo (a dd : Addr) (c : Nat) (fs : List (Str × PyData))
abbrev VEnv := List (Option RV)

mutual
inductive Dq (K : PySem.W.Frag) (F : Hp) : V → PyData → Prop
  | non : Dq K F .non .none
  | bl (b : Bool) : Dq K F (.bl b) (.bool b)
  | int (i : Int) : Dq K F (.int i) (.int i)
  | str (x : Str) : Dq K F (.str x) (.str x)
  | lst {a : Addr} {xs : List V} {ds : List PyData} : F a = some (.lst xs) → DqA K F xs ds → Dq K F (.ref a) (.list ds)
  | tup {a : Addr} {xs : List V} {ds : List PyData} : SqT K F a xs → DqA K F xs ds → Dq K F (.ref a) (.tuple ds)
inductive DqA (K : PySem.W.Frag) (F : Hp) : List V → List PyData → Prop
  | nil : DqA K F [] []
  | cons {v : V} {vs : List V} {d : PyData} {ds : List PyData} : Dq K F v d → DqA K F vs ds → DqA K F (v :: vs) (d :: ds)
end

theorem same_seqT {K : PySem.W.Frag} {H H' : Hp} {a : Addr} {xs : List V} (e : Same H H') (h : SqT K H a xs) : SqT K H' a xs := by
  rcases h with (h | ⟨o, h⟩) | h
  · exact .inl (.inl (e _ _ h))
  · exact .inl (.inr ⟨o, e _ _ h⟩)
  · exact .inr h

mutual
theorem Dq.mono {K : PySem.W.Frag} {F F' : Hp} (e : Same F F') : ∀ (d : PyData) (v : V), Dq K F v d → Dq K F' v d
  | .none, _, h => by cases h; exact .non
  | .bool b, _, h => by cases h; exact .bl b
  | .int i, _, h => by cases h; exact .int i
  | .str x, _, h => by cases h; exact .str x
  | .list ds, _, h => by
    cases h with
    | lst h1 h2 => exact .lst (e _ _ h1) (DqA.mono e ds _ h2)
  | .tuple ds, _, h => by
    cases h with
    | tup h1 h2 => exact .tup (same_seqT e h1) (DqA.mono e ds _ h2)
  | .dict _, _, h => by cases h
theorem DqA.mono {K : PySem.W.Frag} {F F' : Hp} (e : Same F F') : ∀ (ds : List PyData) (vs : List V), DqA K F vs ds → DqA K F' vs ds
  | [], _, h => by cases h; exact .nil
  | d :: ds, _, h => by
    cases h with
    | cons h1 h2 => exact .cons (Dq.mono e d _ h1) (DqA.mono e ds _ h2)
end
mutual
theorem Dq.dp {K : PySem.W.Frag} {F : Hp} : ∀ (d : PyData) (v : V), Dq K F v d → Dp K F v d
  | .none, _, h => by cases h; exact .non
  | .bool b, _, h => by cases h; exact .bl b
  | .int i, _, h => by cases h; exact .int i
  | .str x, _, h => by cases h; exact .str x
  | .list ds, _, h => by
    cases h with
    | lst h1 h2 => exact .lst (SqL.of h1) (DqA.dp ds _ h2)
  | .tuple ds, _, h => by
    cases h with
    | tup h1 h2 => exact .tup h1 (DqA.dp ds _ h2)
  | .dict _, _, h => by cases h
theorem DqA.dp {K : PySem.W.Frag} {F : Hp} : ∀ (ds : List PyData) (vs : List V), DqA K F vs ds → DpAll K F vs ds
  | [], _, h => by cases h; exact .nil
  | d :: ds, _, h => by
    cases h with
    | cons h1 h2 => exact .cons (Dq.dp d _ h1) (DqA.dp ds _ h2)
end
theorem DqA.length {K : PySem.W.Frag} {F : Hp} : ∀ {ds : List PyData} {vs : List V}, DqA K F vs ds → vs.length = ds.length
  | [], _, h => by cases h; rfl
  | d :: ds, _, h => by
    cases h with
    | cons h1 h2 => simp [DqA.length h2]
theorem DqA.get {K : PySem.W.Frag} {F : Hp} : ∀ {ds : List PyData} {vs : List V} {i : Nat} {d : PyData}, DqA K F vs ds → ds[i]? = some d → ∃ v, vs[i]? = some v ∧ Dq K F v d
  | [], _, i, _, h, e => by simp at e
  | d :: ds, _, 0, x, h, e => by
    cases h with
    | cons h1 h2 => simp at e; subst e; exact ⟨_, rfl, h1⟩
  | d :: ds, _, i + 1, x, h, e => by
    cases h with
    | cons h1 h2 =>
      obtain ⟨v, q1, q2⟩ := DqA.get (i := i) h2 (by simpa using e)
      exact ⟨v, by simpa using q1, q2⟩
theorem DqA.get' {K : PySem.W.Frag} {F : Hp} : ∀ {ds : List PyData} {vs : List V} {i : Nat} {v : V}, DqA K F vs ds → vs[i]? = some v → ∃ d, ds[i]? = some d ∧ Dq K F v d
  | [], _, i, _, h, e => by cases h; simp at e
  | d :: ds, _, 0, x, h, e => by
    cases h with
    | cons h1 h2 => simp at e; subst e; exact ⟨_, rfl, h1⟩
  | d :: ds, _, i + 1, x, h, e => by
    cases h with
    | cons h1 h2 =>
      obtain ⟨v, q1, q2⟩ := DqA.get' (i := i) h2 (by simpa using e)
      exact ⟨v, by simpa using q1, q2⟩
theorem DqA.append {K : PySem.W.Frag} {F : Hp} : ∀ {ds es : List PyData} {vs ws : List V}, DqA K F vs ds → DqA K F ws es → DqA K F (vs ++ ws) (ds ++ es)
  | [], _, _, _, h, k => by cases h; exact k
  | d :: ds, _, _, _, h, k => by
    cases h with
    | cons h1 h2 => exact .cons h1 (DqA.append h2 k)
theorem DqA.take {K : PySem.W.Frag} {F : Hp} : ∀ {ds : List PyData} {vs : List V} (n : Nat), DqA K F vs ds → DqA K F (vs.take n) (ds.take n)
  | _, _, 0, _ => .nil
  | [], _, n + 1, h => by cases h; exact .nil
  | d :: ds, _, n + 1, h => by
    cases h with
    | cons h1 h2 => exact .cons h1 (DqA.take n h2)
theorem DqA.drop {K : PySem.W.Frag} {F : Hp} : ∀ {ds : List PyData} {vs : List V} (n : Nat), DqA K F vs ds → DqA K F (vs.drop n) (ds.drop n)
  | _, _, 0, h => h
  | [], _, n + 1, h => by cases h; exact .nil
  | d :: ds, _, n + 1, h => by
    cases h with
    | cons h1 h2 => exact DqA.drop n h2
theorem DqA.set {K : PySem.W.Frag} {F : Hp} {v : V} {d : PyData} (q : Dq K F v d) : ∀ {ds : List PyData} {vs : List V} (n : Nat), DqA K F vs ds → DqA K F (vs.set n v) (ds.set n d)
  | [], _, n, h => by cases h; exact .nil
  | _ :: ds, _, 0, h => by
    cases h with
    | cons h1 h2 => exact .cons q h2
  | _ :: ds, _, n + 1, h => by
    cases h with
    | cons h1 h2 => exact .cons h1 (DqA.set q n h2)
theorem DqA.rev {K : PySem.W.Frag} {F : Hp} : ∀ {ds : List PyData} {vs : List V}, DqA K F vs ds → DqA K F vs.reverse ds.reverse
  | [], _, h => by cases h; exact .nil
  | _ :: ds, _, h => by
    cases h with
    | cons h1 h2 => rw [List.reverse_cons, List.reverse_cons]; exact DqA.append (DqA.rev h2) (.cons h1 .nil)
theorem DqA.ints {K : PySem.W.Frag} {F : Hp} : ∀ {ns : List Int} {vs : List V}, DqA K F vs (ns.map PyData.int) → vs = ns.map V.int
  | [], _, h => by cases h; rfl
  | _ :: ns, _, h => by
    cases h with
    | cons h1 h2 => cases h1; rw [DqA.ints h2]; rfl
theorem DqA.of_ints {K : PySem.W.Frag} {F : Hp} : ∀ (ns : List Int), DqA K F (ns.map V.int) (ns.map PyData.int)
  | [] => .nil
  | i :: ns => .cons (.int i) (DqA.of_ints ns)

/-! ## the frozen part of the heap -/
/-- the frozen part F of H: all tuples are in it -/
structure Cfg (F H : Hp) : Prop where
  sub : Same F H
  tup : ∀ a xs, H a = some (.tup xs) → F a = some (.tup xs)
structure Grow (F H F' H' : Hp) : Prop where
  cfg : Cfg F' H'
  ff : Same F F'
  hh : Same H H'
  nw : ∀ a o, F' a = some o → F a = some o ∨ H a = none
theorem Grow.refl {F H : Hp} (c : Cfg F H) : Grow F H F H := ⟨c, Same.refl _, Same.refl _, fun _ _ h => .inl h⟩
theorem same_none {H H' : Hp} (e : Same H H') {a : Addr} (h : H' a = none) : H a = none := e.free h
theorem Grow.trans {F H F1 H1 F2 H2 : Hp} (a : Grow F H F1 H1) (b : Grow F1 H1 F2 H2) : Grow F H F2 H2 :=
  ⟨b.cfg, a.ff.trans b.ff, a.hh.trans b.hh, fun x o h => by
    rcases b.nw x o h with h | h
    · exact a.nw x o h
    · exact .inr (same_none a.hh h)⟩
theorem Grow.stillFree {F H F' H' : Hp} (g : Grow F H F' H') {p : Addr} {o : HO} (f : F p = none) (h : H p = some o) : F' p = none := by
  cases q : F' p with
  | none => rfl
  | some u =>
    rcases g.nw p u q with z | z
    · rw [f] at z; cases z
    · rw [h] at z; cases z
/-- a new frozen object -/
theorem Grow.newF {F H : Hp} (c : Cfg F H) {p : Addr} (o : HO) (n : H p = none) : Grow F H (upd F p o) (upd H p o) where
  cfg := ⟨fun b u h => by
      by_cases e : b = p
      · subst e; rw [upd_same] at h ⊢; exact h
      · rw [upd_ne e] at h ⊢; exact c.sub b u h, fun b xs h => by
      by_cases e : b = p
      · subst e; rw [upd_same] at h ⊢; exact h
      · rw [upd_ne e] at h ⊢; exact c.tup b xs h⟩
  ff := fun b u h => by rw [upd_ne (ne_of_none h (same_none c.sub n))]; exact h
  hh := fun b u h => by rw [upd_ne (ne_of_none h n)]; exact h
  nw := fun b u h => by
    by_cases e : b = p
    · subst e; exact .inr n
    · rw [upd_ne e] at h; exact .inl h
/-- a new object of its own (no tuple) -/
theorem Grow.newO {F H : Hp} (c : Cfg F H) {p : Addr} (o : HO) (n : H p = none) (nt : ∀ xs, o ≠ .tup xs) : Grow F H F (upd H p o) where
  cfg := ⟨fun b u h => by rw [upd_ne (ne_of_none (c.sub _ _ h) n)]; exact c.sub b u h, fun b xs h => by
      by_cases e : b = p
      · subst e; rw [upd_same] at h; exact absurd (Option.some.inj h) (nt xs)
      · rw [upd_ne e] at h; exact c.tup b xs h⟩
  ff := Same.refl _
  hh := fun b u h => by rw [upd_ne (ne_of_none h n)]; exact h
  nw := fun _ _ h => .inl h
/-- what stood of its own is frozen -/
theorem Grow.freeze {F0 H0 F H : Hp} (g : Grow F0 H0 F H) {p : Addr} {o : HO} (n0 : H0 p = none) (f : F p = none) (h : H p = some o) : Grow F0 H0 (upd F p o) H where
  cfg := ⟨fun b u q => by
      by_cases e : b = p
      · subst e; rw [upd_same] at q; cases q; exact h
      · rw [upd_ne e] at q; exact g.cfg.sub b u q, fun b xs q => by
      by_cases e : b = p
      · subst e; rw [q] at h; cases h; exact upd_same
      · rw [upd_ne e]; exact g.cfg.tup b xs q⟩
  ff := fun b u q => by
    have : b ≠ p := fun e => by subst e; rw [g.ff b u q] at f; cases f
    rw [upd_ne this]; exact g.ff b u q
  hh := g.hh
  nw := fun b u q => by
    by_cases e : b = p
    · subst e; exact .inr n0
    · rw [upd_ne e] at q; exact g.nw b u q
/-- an object of its own changes -/
theorem Grow.write {F0 H0 F H : Hp} (g : Grow F0 H0 F H) {p : Addr} {o o' : HO} (n0 : H0 p = none) (f : F p = none) (h : H p = some o) (nt : ∀ xs, o' ≠ .tup xs) : Grow F0 H0 F (upd H p o') where
  cfg := ⟨fun b u q => by
      have : b ≠ p := fun e => by subst e; rw [q] at f; cases f
      rw [upd_ne this]; exact g.cfg.sub b u q, fun b xs q => by
      by_cases e : b = p
      · subst e; rw [upd_same] at q; exact absurd (Option.some.inj q) (nt xs)
      · rw [upd_ne e] at q; exact g.cfg.tup b xs q⟩
  ff := g.ff
  hh := fun b u q => by
    have : b ≠ p := fun e => by subst e; rw [q] at n0; cases n0
    rw [upd_ne this]; exact g.hh b u q
  nw := g.nw

/-! ## what a value stands for -/
def KD {κ : Type} (K : PySem.W.Frag) (F : Hp) : List (κ × V) → List (κ × PyData) → Prop := Paired fun (p : κ × V) (q : κ × PyData) => p.1 = q.1 ∧ Dq K F p.2 q.2
theorem KD.mono {κ : Type} {K : PySem.W.Frag} {F F' : Hp} (e : Same F F') {a : List (κ × V)} {b : List (κ × PyData)} (h : KD K F a b) : KD K F' a b :=
  Paired.mapP h fun _ _ z => ⟨z.1, z.2.mono e⟩
/-- a dict whose keys are tuples of ints, by its entries -/
def hashT (ks : List Int) : Int := reduceHash (Builtin.Tuple.tupleHashOf (ks.map hashInt))
abbrev TX := Nat × List (List Int × Addr × Value)
def DTOk (d : Addr) (t : TX) (h : Heap) : Prop := ∃ o es, h.get? d = some o ∧ o.ExactDict ∧ o.data = .dict es t.1 ∧ es.toList = t.2.map (fun x => (⟨hashT x.1, .ref x.2.1, x.2.2⟩ : DictEntry)) ∧ (t.2.map (·.1)).Nodup ∧ t.2.length ≤ sizeLine ∧ (d == sysModules) = false
def DTO (d : Addr) (xs : TX) : HO := .ext (DTOk d xs)
def KTl (K : PySem.W.Frag) (F : Hp) : List (List Int × Addr × Value) → List (List Int × PyData) → Prop := Paired fun p q => p.1 = q.1 ∧ SqT K F p.2.1 (p.1.map V.int) ∧ ∃ v, RelV v p.2.2 ∧ Dq K F v q.2
def KTq (K : PySem.W.Frag) (F : Hp) (t : TX) (kvs : List (List Int × PyData)) : Prop := KTl K F t.2 kvs
theorem KTl.mono {K : PySem.W.Frag} {F F' : Hp} (e : Same F F') {a : List (List Int × Addr × Value)} {b : List (List Int × PyData)} (h : KTl K F a b) : KTl K F' a b :=
  Paired.mapP h fun _ _ z => ⟨z.1, same_seqT e z.2.1, z.2.2.choose, z.2.2.choose_spec.1, z.2.2.choose_spec.2.mono e⟩
theorem KTq.mono {K : PySem.W.Frag} {F F' : Hp} (e : Same F F') {a : TX} {b : List (List Int × PyData)} (h : KTq K F a b) : KTq K F' a b := KTl.mono e h
theorem DTO_tup {d : Addr} {xs : TX} (ys : List V) : DTO d xs ≠ .tup ys := fun z => by
  have z' : HO.ext _ = HO.tup ys := z
  cases z'
def RVok (K : PySem.W.Frag) (H0 F H : Hp) (v : V) : RV → Prop
  | .d x => Dq K F v x
  | .ol xs => ∃ p vs, v = .ref p ∧ H0 p = none ∧ F p = none ∧ H p = some (.lst vs) ∧ DqA K F vs xs
  | .bl xs => ∃ p vs, v = .ref p ∧ H p = some (.lst vs) ∧ DqA K F vs xs
  | .od xs => ∃ p vs, v = .ref p ∧ H0 p = none ∧ F p = none ∧ H p = some (.dK vs) ∧ KD K F vs xs
  | .bd xs => ∃ p vs, v = .ref p ∧ H p = some (.dK vs) ∧ KD K F vs xs
  | .ot xs => ∃ p vs, v = .ref p ∧ H0 p = none ∧ F p = none ∧ H p = some (DTO p vs) ∧ KTq K F vs xs
  | .bt xs => ∃ p vs, v = .ref p ∧ H p = some (DTO p vs) ∧ KTq K F vs xs
  | .sc ns => ∃ a, v = .ref a ∧ SqL K F a (ns.map V.int)
  | .xo a dd _ fs => v = .ref a ∧ ∃ xs, H dd = some (.xd xs) ∧ KD K F xs fs
theorem RVok.grow {K : PySem.W.Frag} {H0 F H F' H' : Hp} {v : V} {r : RV} (h : RVok K H0 F H v r) (g : Grow F H F' H') : RVok K H0 F' H' v r := by
  cases r with
  | d x => exact Dq.mono g.ff x v h
  | ol xs => obtain ⟨p, vs, e, n0, f, hp, q⟩ := h; exact ⟨p, vs, e, n0, g.stillFree f hp, g.hh _ _ hp, DqA.mono g.ff _ _ q⟩
  | bl xs => obtain ⟨p, vs, e, hp, q⟩ := h; exact ⟨p, vs, e, g.hh _ _ hp, DqA.mono g.ff _ _ q⟩
  | od xs => obtain ⟨p, vs, e, n0, f, hp, q⟩ := h; exact ⟨p, vs, e, n0, g.stillFree f hp, g.hh _ _ hp, q.mono g.ff⟩
  | bd xs => obtain ⟨p, vs, e, hp, q⟩ := h; exact ⟨p, vs, e, g.hh _ _ hp, q.mono g.ff⟩
  | ot xs => obtain ⟨p, vs, e, n0, f, hp, q⟩ := h; exact ⟨p, vs, e, n0, g.stillFree f hp, g.hh _ _ hp, q.mono g.ff⟩
  | bt xs => obtain ⟨p, vs, e, hp, q⟩ := h; exact ⟨p, vs, e, g.hh _ _ hp, q.mono g.ff⟩
  | sc ns => obtain ⟨a, e, q⟩ := h; exact ⟨a, e, g.ff.seq q⟩
  | xo a dd c fs => obtain ⟨e, xs, hp, q⟩ := h; exact ⟨e, xs, g.hh _ _ hp, q.mono g.ff⟩
/-- fresh over a later heap is fresh over an earlier one -/
theorem RVok.older {K : PySem.W.Frag} {H0 H1 F H : Hp} {v : V} {r : RV} (h : RVok K H1 F H v r) (e : Same H0 H1) : RVok K H0 F H v r := by
  cases r with
  | ol xs => obtain ⟨p, vs, e1, n0, q⟩ := h; exact ⟨p, vs, e1, same_none e n0, q⟩
  | od xs => obtain ⟨p, vs, e1, n0, q⟩ := h; exact ⟨p, vs, e1, same_none e n0, q⟩
  | ot xs => obtain ⟨p, vs, e1, n0, q⟩ := h; exact ⟨p, vs, e1, same_none e n0, q⟩
  | _ => exact h

/-- of its own -/
def RV.own : RV → Bool
  | .ol _ | .od _ | .ot _ => true
  | _ => false
def RV.isB : RV → Bool
  | .bl _ | .bd _ | .bt _ => true
  | _ => false
/-- borrowed -/
def RV.bor : RV → RV
  | .ol xs => .bl xs
  | .od xs => .bd xs
  | .ot xs => .bt xs
  | r => r
theorem RVok.bor {K : PySem.W.Frag} {H0 F H : Hp} {v : V} {r : RV} (h : RVok K H0 F H v r) : RVok K H0 F H v r.bor := by
  cases r with
  | ol xs => obtain ⟨p, vs, e1, n0, f, q⟩ := h; exact ⟨p, vs, e1, q⟩
  | od xs => obtain ⟨p, vs, e1, n0, f, q⟩ := h; exact ⟨p, vs, e1, q⟩
  | ot xs => obtain ⟨p, vs, e1, n0, f, q⟩ := h; exact ⟨p, vs, e1, q⟩
  | _ => exact h

/-! ## the state of a body -/
structure Base where
  F : Hp
  H : Hp
structure StOk (K : PySem.W.Frag) (B : Base) (F : Hp) (env : VEnv) (σ : L2.St) (H : Hp) : Prop where
  gr : Grow B.F B.H F H
  len : env.length = σ.length
  sl : ∀ (i : Nat) (r : RV), env[i]? = some (some r) → ∃ v, σ[i]? = some (some v) ∧ RVok K B.H F H v r
  bo : ∀ (i : Nat) (r : RV) (p : Addr), env[i]? = some (some r) → r.isB = true → σ[i]? = some (some (.ref p)) → ∃ o, B.H p = some o
  dis : ∀ (i j : Nat) (r r' : RV) (p : Addr), i ≠ j → env[i]? = some (some r) → env[j]? = some (some r') → r.own = true → r'.own = true → σ[i]? = some (some (.ref p)) → σ[j]? ≠ some (some (.ref p))
theorem StOk.grow {K : PySem.W.Frag} {B : Base} {F H F' H' : Hp} {env : VEnv} {σ : L2.St} (s : StOk K B F env σ H) (g : Grow F H F' H') : StOk K B F' env σ H' :=
  ⟨s.gr.trans g, s.len, fun i r e => by
    obtain ⟨v, e1, h⟩ := s.sl i r e
    exact ⟨v, e1, h.grow g⟩, s.bo, s.dis⟩
theorem StOk.cfg {K : PySem.W.Frag} {B : Base} {F H : Hp} {env : VEnv} {σ : L2.St} (s : StOk K B F env σ H) : Cfg F H := s.gr.cfg

/-! ## expressions -/
section
variable (K : PySem.W.Frag) (ca : Nat → Addr)
def ExOk (F H : Hp) (cls : Value) (dx : Option Addr) (c : Nat) (fs : List (Str × PyData)) : Prop :=
  cls = .ref (ca c) ∧ ∃ dd xs, dx = some dd ∧ H dd = some (.xd xs) ∧ KD K F xs fs
def PostX (W : WX) (σ : L2.St) (F H : Hp) (c : Nat) (fs : List (Str × PyData)) : Prop :=
  ∀ F' H' cls dx, Grow F H F' H' → ExOk K ca F' H' cls dx c fs → W cls dx σ H'
def PostE (W : WX) (σ : L2.St) (F H : Hp) (Q : VK) : Rs RV → Prop
  | .ok r => ∀ F' H' v, Grow F H F' H' → RVok K H F' H' v r → Q v H'
  | .ex c fs => PostX K ca W σ F H c fs
  | .no => False
def PostB (W : WX) (σ : L2.St) (F H : Hp) (Q : Bool → Hp → Prop) : Rs Bool → Prop
  | .ok b => ∀ F' H', Grow F H F' H' → Q b H'
  | .ex c fs => PostX K ca W σ F H c fs
  | .no => False
def PostA (W : WX) (σ : L2.St) (F H : Hp) (Q : List V → Hp → Prop) : Rs (List RV) → Prop
  | .ok rs => ∀ F' H' vs, Grow F H F' H' → Paired (fun v r => RVok K H F' H' v r) vs rs → Q vs H'
  | .ex c fs => PostX K ca W σ F H c fs
  | .no => False
def SndE (W : WX) (t : TE) (f : VEnv → Rs RV) : Prop := ∀ B F env σ H Q, StOk K B F env σ H → PostE K ca W σ F H Q (f env) → t σ H Q
def SndT (W : WX) (t : TT) (f : VEnv → Rs Bool) : Prop := ∀ B F env σ H Q, StOk K B F env σ H → PostB K ca W σ F H Q (f env) → t σ H Q
def SndA (W : WX) (t : TA) (f : VEnv → Rs (List RV)) : Prop := ∀ B F env σ H Q, StOk K B F env σ H → PostA K ca W σ F H Q (f env) → t σ H Q
end
section
variable {K : PySem.W.Frag} {ca : Nat → Addr} {W : WX} {B : Base} {F H F1 H1 : Hp} {env : VEnv} {σ : L2.St}
theorem PostX.mono {c : Nat} {fs : List (Str × PyData)} (g : Grow F H F1 H1) (h : PostX K ca W σ F H c fs) : PostX K ca W σ F1 H1 c fs :=
  fun F' H' cls dx g' e => h F' H' cls dx (g.trans g') e
theorem PostE.mono {Q : VK} {m : Rs RV} (g : Grow F H F1 H1) (h : PostE K ca W σ F H Q m) : PostE K ca W σ F1 H1 Q m := by
  cases m with
  | ok r => exact fun F' H' v g' e => h F' H' v (g.trans g') (e.older g.hh)
  | ex c fs => exact PostX.mono g h
  | no => exact h
theorem PostB.mono {Q : Bool → Hp → Prop} {m : Rs Bool} (g : Grow F H F1 H1) (h : PostB K ca W σ F H Q m) : PostB K ca W σ F1 H1 Q m := by
  cases m with
  | ok r => exact fun F' H' g' => h F' H' (g.trans g')
  | ex c fs => exact PostX.mono g h
  | no => exact h
theorem paired_older {K : PySem.W.Frag} {H0 H1 F H : Hp} (e : Same H0 H1) {vs : List V} {rs : List RV} (h : Paired (fun v r => RVok K H1 F H v r) vs rs) : Paired (fun v r => RVok K H0 F H v r) vs rs :=
  Paired.mapP h fun _ _ z => z.older e
theorem paired_grow {K : PySem.W.Frag} {H0 F H F' H' : Hp} (g : Grow F H F' H') {vs : List V} {rs : List RV} (h : Paired (fun v r => RVok K H0 F H v r) vs rs) : Paired (fun v r => RVok K H0 F' H' v r) vs rs :=
  Paired.mapP h fun _ _ z => z.grow g
theorem PostA.mono {Q : List V → Hp → Prop} {m : Rs (List RV)} (g : Grow F H F1 H1) (h : PostA K ca W σ F H Q m) : PostA K ca W σ F1 H1 Q m := by
  cases m with
  | ok r => exact fun F' H' v g' e => h F' H' v (g.trans g') (paired_older g.hh e)
  | ex c fs => exact PostX.mono g h
  | no => exact h
/-- one part, then what hangs on it -/
theorem seqE {t : TE} {f : VEnv → Rs RV} {Q : VK} {α : Type} {k : RV → Rs α} (P : Rs α → Prop) (s : SndE K ca W t f) (st : StOk K B F env σ H)
    (post : P ((f env).bind k)) (hx : ∀ c fs, P (.ex c fs) → PostX K ca W σ F H c fs) (hn : ¬ P .no)
    (h : ∀ r F1 H1 v, P (k r) → Grow F H F1 H1 → RVok K H F1 H1 v r → Q v H1) : t σ H Q := by
  refine s B F env σ H Q st ?_
  cases e : f env with
  | ok r => rw [e] at post; exact fun F' H' v g q => h r F' H' v post g q
  | ex c fs => rw [e] at post; exact hx c fs post
  | no => rw [e] at post; exact hn post
theorem seqT {t : TT} {f : VEnv → Rs Bool} {Q : Bool → Hp → Prop} {α : Type} {k : Bool → Rs α} (P : Rs α → Prop) (s : SndT K ca W t f) (st : StOk K B F env σ H)
    (post : P ((f env).bind k)) (hx : ∀ c fs, P (.ex c fs) → PostX K ca W σ F H c fs) (hn : ¬ P .no)
    (h : ∀ r F1 H1, P (k r) → Grow F H F1 H1 → Q r H1) : t σ H Q := by
  refine s B F env σ H Q st ?_
  cases e : f env with
  | ok r => rw [e] at post; exact fun F' H' g => h r F' H' post g
  | ex c fs => rw [e] at post; exact hx c fs post
  | no => rw [e] at post; exact hn post
theorem seqA {t : TA} {f : VEnv → Rs (List RV)} {Q : List V → Hp → Prop} {α : Type} {k : List RV → Rs α} (P : Rs α → Prop) (s : SndA K ca W t f) (st : StOk K B F env σ H)
    (post : P ((f env).bind k)) (hx : ∀ c fs, P (.ex c fs) → PostX K ca W σ F H c fs) (hn : ¬ P .no)
    (h : ∀ r F1 H1 vs, P (k r) → Grow F H F1 H1 → Paired (fun v r => RVok K H F1 H1 v r) vs r → Q vs H1) : t σ H Q := by
  refine s B F env σ H Q st ?_
  cases e : f env with
  | ok r => rw [e] at post; exact fun F' H' v g q => h r F' H' v post g q
  | ex c fs => rw [e] at post; exact hx c fs post
  | no => rw [e] at post; exact hn post
end

structure VE (ca : Nat → Addr) (W : WX) (X : Cx) (e : Expr) (f : VEnv → Rs RV) : Prop where
  ex : ∃ t, PE X e t ∧ SndE X.K ca W t f
structure VT (ca : Nat → Addr) (W : WX) (X : Cx) (e : Expr) (f : VEnv → Rs Bool) : Prop where
  ex : ∃ t, PT X e t ∧ SndT X.K ca W t f
structure VW (ca : Nat → Addr) (W : WX) (X : Cx) (e : Expr) (f : VEnv → Rs Bool) : Prop where
  ex : ∃ t, PW X e t ∧ SndT X.K ca W t f
structure VA (ca : Nat → Addr) (W : WX) (X : Cx) (es : List Expr) (f : VEnv → Rs (List RV)) : Prop where
  ex : ∃ t, PA X es t ∧ SndA X.K ca W t f

section
variable {ca : Nat → Addr} {W : WX} {X : Cx} {a b e : Expr} {es : List Expr} {fa fb : VEnv → Rs RV} {pos : Pos}
/-! ### names and constants -/
def cC (x : PyData) : VEnv → Rs RV := fun _ => .ok (.d x)
theorem ve_int {i j pos} : VE ca W X (.Constant (.int i) j pos) (cC (.int i)) := ⟨_, pe_int, fun _ _ _ _ _ _ st p => p _ _ _ (Grow.refl st.cfg) (.int i)⟩
theorem ve_bl {b j pos} : VE ca W X (.Constant (.bool b) j pos) (cC (.bool b)) := ⟨_, pe_bl, fun _ _ _ _ _ _ st p => p _ _ _ (Grow.refl st.cfg) (.bl b)⟩
theorem ve_non {j pos} : VE ca W X (.Constant .none j pos) (cC .none) := ⟨_, pe_non, fun _ _ _ _ _ _ st p => p _ _ _ (Grow.refl st.cfg) .non⟩
theorem ve_str {x j pos} : VE ca W X (.Constant (.str x) j pos) (cC (.str x)) := ⟨_, pe_str, fun _ _ _ _ _ _ st p => p _ _ _ (Grow.refl st.cfg) (.str x)⟩
/-- a name: borrowed where the slot's list or dict is of its own -/
def cV (i : Nat) : VEnv → Rs RV := fun env => match env[i]? with
  | some (some r) => .ok r.bor
  | _ => .no
theorem snd_var {K : PySem.W.Frag} {i : Nat} : SndE K ca W (tVar i) (cV i) := by
  intro B F env σ H Q st p
  unfold cV at p
  split at p
  · rename_i r e
    obtain ⟨v, e1, h⟩ := st.sl i r e
    refine ⟨v, e1, p F H v (Grow.refl st.cfg) ?_⟩
    cases r with
    | ol xs => exact h.bor
    | od xs => exact h.bor
    | ot xs => exact h.bor
    | _ => exact h
  · exact p.elim
theorem vv (i : Nat) {x : Str} {pos : Pos} (hN : X.N[i]? = some x := by rfl) (hv : Vis X.env.scope x := by first | exact Or.inl rfl | exact Or.inr (Or.inl rfl) | exact Or.inr (Or.inr rfl)) (hd : (x == ("__debug__" : Str)) = false := by decide)
    (hcd : (x == ("__classdict__" : Str)) = false := by decide) : VE ca W X (.Name x pos) (cV i) := ⟨_, pe_var hN hv hd hcd, snd_var⟩
/-- a constant of the module: an int, a text -/
theorem ve_gint {x : Str} {i : Int} {t : Tok} {pos : Pos} (hg : Gl X x) (hm : X.mg x = some (.int i t)) (hd : (x == ("__debug__" : Str)) = false := by decide) : VE ca W X (.Name x pos) (cC (.int i)) :=
  ⟨_, pe_glob hg hm (v := .int i) ⟨t, rfl⟩ hd, fun _ _ _ _ _ _ st p => p _ _ _ (Grow.refl st.cfg) (.int i)⟩
theorem ve_gstr {x y : Str} {t : Tok} {pos : Pos} (hg : Gl X x) (hm : X.mg x = some (.str y t)) (hd : (x == ("__debug__" : Str)) = false := by decide) : VE ca W X (.Name x pos) (cC (.str y)) :=
  ⟨_, pe_glob hg hm (v := .str y) ⟨t, rfl⟩ hd, fun _ _ _ _ _ _ st p => p _ _ _ (Grow.refl st.cfg) (.str y)⟩

/-! ### operators by their values -/
def Op2S (K : PySem.W.Frag) (ca : Nat → Addr) (r : R2) (g : RV → RV → Rs RV) : Prop := ∀ (W : WX) σ F0 H0 F H v1 v2 a b Q, Grow F0 H0 F H → RVok K H0 F H v1 a → RVok K H0 F H v2 b → PostE K ca W σ F0 H0 Q (g a b) → r v1 v2 H Q
def Op1S (K : PySem.W.Frag) (ca : Nat → Addr) (r : V → Hp → VK → Prop) (g : RV → Rs RV) : Prop := ∀ (W : WX) σ F0 H0 F H v a Q, Grow F0 H0 F H → RVok K H0 F H v a → PostE K ca W σ F0 H0 Q (g a) → r v H Q
def CaS (K : PySem.W.Frag) (ca : Nat → Addr) (r : List V → Hp → VK → Prop) (g : List RV → Rs RV) : Prop := ∀ (W : WX) σ F0 H0 F H vs as Q, Grow F0 H0 F H → Paired (fun v a => RVok K H0 F H v a) vs as → PostE K ca W σ F0 H0 Q (g as) → r vs H Q
def c2 (g : RV → RV → Rs RV) (fa fb : VEnv → Rs RV) : VEnv → Rs RV := fun env => (fa env).bind fun x => (fb env).bind fun y => g x y
def c1 (g : RV → Rs RV) (fa : VEnv → Rs RV) : VEnv → Rs RV := fun env => (fa env).bind g
theorem snd_op2 {K : PySem.W.Frag} {r : R2} {g : RV → RV → Rs RV} {ta tb : TE} (hr : Op2S K ca r g) (sa : SndE K ca W ta fa) (sb : SndE K ca W tb fb) : SndE K ca W (tOp r ta tb) (c2 g fa fb) := by
  intro B F env σ H Q st p
  show ta σ H fun x H1 => tb σ H1 fun y H2 => r x y H2 Q
  refine seqE (PostE K ca W σ F H Q) sa st p (fun _ _ h => h) (fun h => h) fun x F1 H1 v1 p1 g1 q1 => ?_
  refine seqE (PostE K ca W σ F H Q) sb (st.grow g1) p1 (fun _ _ h => PostX.mono g1 h) (fun h => h) fun y F2 H2 v2 p2 g2 q2 => ?_
  exact hr W σ F H F2 H2 v1 v2 x y Q (g1.trans g2) (q1.grow g2) (q2.older g1.hh) p2
theorem snd_op1 {K : PySem.W.Frag} {r : V → Hp → VK → Prop} {g : RV → Rs RV} {ta : TE} (hr : Op1S K ca r g) (sa : SndE K ca W ta fa) : SndE K ca W (tUn r ta) (c1 g fa) := by
  intro B F env σ H Q st p
  show ta σ H fun x H1 => r x H1 Q
  refine seqE (PostE K ca W σ F H Q) sa st p (fun _ _ h => h) (fun h => h) fun x F1 H1 v1 p1 g1 q1 => ?_
  exact hr W σ F H F1 H1 v1 x Q g1 q1 p1
theorem ve_op {op : Operator} {r : R2} {g : RV → RV → Rs RV} (ho : OpR X (binaryOp op) r) (hr : Op2S X.K ca r g) (ha : VE ca W X a fa) (hb : VE ca W X b fb) : VE ca W X (.BinOp a op b pos) (c2 g fa fb) := by
  obtain ⟨ta, pa, sa⟩ := ha
  obtain ⟨tb, pb, sb⟩ := hb
  exact ⟨_, pe_op ho pa pb, snd_op2 hr sa sb⟩
theorem ve_un {op : UnaryOp} {r : V → Hp → VK → Prop} {g : RV → Rs RV} (ho : UnR X (unaryOp op) r) (hr : Op1S X.K ca r g) (ha : VE ca W X a fa) : VE ca W X (.UnaryOp op a pos) (c1 g fa) := by
  obtain ⟨ta, pa, sa⟩ := ha
  exact ⟨_, pe_un ho pa, snd_op1 hr sa⟩
theorem ve_ix {r : R2} {g : RV → RV → Rs RV} (ho : IxR X r) (hr : Op2S X.K ca r g) (ha : VE ca W X a fa) (hb : VE ca W X b fb) (hs : PlainIx b) : VE ca W X (.Subscript a b pos) (c2 g fa fb) := by
  obtain ⟨ta, pa, sa⟩ := ha
  obtain ⟨tb, pb, sb⟩ := hb
  exact ⟨_, pe_ix ho pa pb hs, snd_op2 hr sa sb⟩
end
end VL

namespace VL
open PySem PySem.Spec PyProof.Rows L2

/-! ## freezing -/
def RV.toD : RV → Option PyData
  | .d x => some x
  | .ol xs => some (.list xs)
  | _ => none
def allD : List RV → Option (List PyData)
  | [] => some []
  | r :: rs => r.toD.bind fun d => (allD rs).bind fun ds => some (d :: ds)
theorem allD_len : ∀ {rs : List RV} {ds : List PyData}, allD rs = some ds → ds.length = rs.length
  | [], ds, h => by simp [allD] at h; subst h; rfl
  | r :: rs, ds, h => by
    unfold allD at h
    cases e : r.toD with
    | none => rw [e] at h; simp at h
    | some d =>
      cases e2 : allD rs with
      | none => rw [e, e2] at h; simp at h
      | some es => rw [e, e2] at h; simp at h; subst h; simp [allD_len e2]
def Fz (K : PySem.W.Frag) (H0 F H : Hp) (v : V) (d : PyData) : Prop := Dq K F v d ∨ ∃ p ws xs, v = .ref p ∧ d = .list xs ∧ H0 p = none ∧ H p = some (.lst ws) ∧ DqA K F ws xs
theorem Fz.of {K : PySem.W.Frag} {H0 F H : Hp} {v : V} {r : RV} {d : PyData} (h : RVok K H0 F H v r) (e : r.toD = some d) : Fz K H0 F H v d := by
  cases r with
  | d x => cases e; exact .inl h
  | ol xs => cases e; obtain ⟨p, vs, e1, n0, f, hp, q⟩ := h; exact .inr ⟨p, vs, xs, e1, rfl, n0, hp, q⟩
  | _ => cases e
theorem Fz.ofs {K : PySem.W.Frag} {H0 F H : Hp} : ∀ {rs : List RV} {vs : List V} {ds : List PyData}, Paired (fun v r => RVok K H0 F H v r) vs rs → allD rs = some ds → Paired (fun v d => Fz K H0 F H v d) vs ds
  | [], _, ds, h, e => by cases h; simp [allD] at e; subst e; exact .nil
  | r :: rs, _, ds, h, e => by
    cases h with
    | cons h1 h2 =>
      unfold allD at e
      cases e1 : r.toD with
      | none => rw [e1] at e; simp at e
      | some d =>
        cases e2 : allD rs with
        | none => rw [e1, e2] at e; simp at e
        | some es => rw [e1, e2] at e; simp at e; subst e; exact .cons (Fz.of h1 e1) (Fz.ofs h2 e2)
theorem Fz.mono {K : PySem.W.Frag} {H0 F F' H : Hp} (e : Same F F') {v : V} {d : PyData} (h : Fz K H0 F H v d) : Fz K H0 F' H v d := by
  rcases h with h | ⟨p, ws, xs, e1, e2, n0, hp, q⟩
  · exact .inl (h.mono e)
  · exact .inr ⟨p, ws, xs, e1, e2, n0, hp, DqA.mono e _ _ q⟩
theorem frz {K : PySem.W.Frag} {F0 H0 F H : Hp} (g : Grow F0 H0 F H) {v : V} {d : PyData} (h : Fz K H0 F H v d) : ∃ F', Grow F0 H0 F' H ∧ Same F F' ∧ Dq K F' v d := by
  rcases h with h | ⟨p, ws, xs, rfl, rfl, n0, hp, q⟩
  · exact ⟨F, g, Same.refl _, h⟩
  · cases e : F p with
    | none =>
      have s : Same F (upd F p (.lst ws)) := fun b u k => by rw [upd_ne (ne_of_none k e)]; exact k
      exact ⟨_, g.freeze n0 e hp, s, .lst upd_same (DqA.mono s _ _ q)⟩
    | some o =>
      have := g.cfg.sub _ _ e
      rw [hp] at this
      cases this
      exact ⟨F, g, Same.refl _, .lst e q⟩
theorem frzs {K : PySem.W.Frag} {F0 H0 H : Hp} : ∀ {F : Hp} {vs : List V} {ds : List PyData}, Grow F0 H0 F H → Paired (fun v d => Fz K H0 F H v d) vs ds → ∃ F', Grow F0 H0 F' H ∧ Same F F' ∧ DqA K F' vs ds
  | F, _, _, g, .nil => ⟨F, g, Same.refl _, .nil⟩
  | F, _, _, g, .cons h1 h2 => by
    obtain ⟨F1, g1, s1, q1⟩ := frz g h1
    obtain ⟨F2, g2, s2, q2⟩ := frzs g1 (Paired.mapP h2 fun _ _ z => z.mono s1)
    exact ⟨F2, g2, s1.trans s2, .cons (q1.mono s2) q2⟩

section
variable {ca : Nat → Addr} {W : WX} {X : Cx} {a b e : Expr} {es : List Expr} {fa fb : VEnv → Rs RV} {pos : Pos}
/-! ## argument lists, displays -/
def aN : VEnv → Rs (List RV) := fun _ => .ok []
def aC (f : VEnv → Rs RV) (g : VEnv → Rs (List RV)) : VEnv → Rs (List RV) := fun env => (f env).bind fun x => (g env).bind fun xs => .ok (x :: xs)
theorem va_nil : VA ca W X [] aN := ⟨_, pa_nil, fun _ _ _ _ _ _ st p => p _ _ _ (Grow.refl st.cfg) .nil⟩
theorem va_cons {f : VEnv → Rs RV} {g : VEnv → Rs (List RV)} (he : VE ca W X e f) (hr : VA ca W X es g) (hs : starEach (e :: es) X.env = (false, eval e X.env) :: starEach es X.env := by rfl) : VA ca W X (e :: es) (aC f g) := by
  obtain ⟨te, pe, se⟩ := he
  obtain ⟨tr, pr, sr⟩ := hr
  refine ⟨_, pa_cons pe pr hs, fun B F env σ H Q st p => ?_⟩
  show te σ H fun x H1 => tr σ H1 fun xs H2 => Q (x :: xs) H2
  refine seqE (PostA X.K ca W σ F H Q) se st p (fun _ _ h => h) (fun h => h) fun x F1 H1 v1 p1 g1 q1 => ?_
  refine seqA (PostA X.K ca W σ F H Q) sr (st.grow g1) p1 (fun _ _ h => PostX.mono g1 h) (fun h => h) fun xs F2 H2 vs p2 g2 q2 => ?_
  exact p2 F2 H2 (v1 :: vs) (g1.trans g2) (.cons (q1.grow g2) (paired_older g1.hh q2))
def rsO {α : Type} : Option α → Rs α
  | some a => .ok a
  | none => .no
@[simp] theorem rsO_some {α : Type} (a : α) : rsO (some a) = .ok a := rfl
@[simp] theorem rsO_none {α : Type} : rsO (none : Option α) = .no := rfl
def gTupl (rs : List RV) : Rs RV := (rsO (allD rs)).bind fun ds => if ds.length ≤ 1000 then .ok (.d (.tuple ds)) else .no
def gList (rs : List RV) : Rs RV := (rsO (allD rs)).bind fun ds => if ds.length ≤ 1000 then .ok (.ol ds) else .no
def cA (g : List RV → Rs RV) (f : VEnv → Rs (List RV)) : VEnv → Rs RV := fun env => (f env).bind g
theorem small_line {n : Nat} (h : n ≤ 1000) : n ≤ sizeLine := Nat.le_of_lt (small1000 h)
theorem ve_tup {x1} {f : VEnv → Rs (List RV)} (h : VA ca W X es f) : VE ca W X (.Tuple es x1 pos) (cA gTupl f) := by
  obtain ⟨t, pa, sa⟩ := h
  refine ⟨_, pe_tup pa, fun B F env σ H Q st p => ?_⟩
  show t σ H fun xs H1 => xs.length ≤ sizeLine ∧ ∀ p, H1 p = none → Q (.ref p) (upd H1 p (.tup xs))
  refine seqA (PostE X.K ca W σ F H Q) sa st p (fun _ _ h => h) (fun h => h) fun rs F1 H1 vs p1 g1 q1 => ?_
  unfold gTupl at p1
  cases e : allD rs with
  | none => rw [e] at p1; exact p1.elim
  | some ds =>
    rw [e] at p1
    simp only [rsO_some, Rs.bind_ok] at p1
    split at p1
    · rename_i hz
      obtain ⟨F2, g2, s2, q2⟩ := frzs g1 (Fz.ofs q1 e)
      refine ⟨by rw [q2.length]; exact small_line hz, fun a n => ?_⟩
      have g3 := Grow.newF g2.cfg (.tup vs) n
      exact p1 _ _ _ (g2.trans g3) (.tup (.inl (.inl upd_same)) (DqA.mono g3.ff _ _ q2))
    · exact p1.elim
theorem ve_lst {f : VEnv → Rs (List RV)} (h : VA ca W X es f) : VE ca W X (.List es pos) (cA gList f) := by
  obtain ⟨t, pa, sa⟩ := h
  refine ⟨_, pe_lst pa, fun B F env σ H Q st p => ?_⟩
  show t σ H fun xs H1 => xs.length ≤ sizeLine ∧ ∀ p, H1 p = none → Q (.ref p) (upd H1 p (.lst xs))
  refine seqA (PostE X.K ca W σ F H Q) sa st p (fun _ _ h => h) (fun h => h) fun rs F1 H1 vs p1 g1 q1 => ?_
  unfold gList at p1
  cases e : allD rs with
  | none => rw [e] at p1; exact p1.elim
  | some ds =>
    rw [e] at p1
    simp only [rsO_some, Rs.bind_ok] at p1
    split at p1
    · rename_i hz
      obtain ⟨F2, g2, s2, q2⟩ := frzs g1 (Fz.ofs q1 e)
      refine ⟨by rw [q2.length]; exact small_line hz, fun a n => ?_⟩
      have g3 := Grow.newO g2.cfg (.lst vs) n (fun _ z => by cases z)
      exact p1 _ _ _ (g2.trans g3) ⟨a, vs, rfl, same_none g2.hh n, same_none g2.cfg.sub n, upd_same, q2⟩
    · exact p1.elim

/-! ## comparisons and tests -/
theorem ve_cmp {op : CmpOp} {r : R2} {g : RV → RV → Rs RV} (ho : OpR X (compareOp op) r) (hr : Op2S X.K ca r g) (ha : VE ca W X a fa) (hb : VE ca W X b fb) (hm : behindInMarks op b = false) : VE ca W X (.Compare a [op] [b] pos) (c2 g fa fb) := by
  obtain ⟨ta, pa, sa⟩ := ha
  obtain ⟨tb, pb, sb⟩ := hb
  exact ⟨_, pe_cmpR ho pa pb hm, snd_op2 hr sa sb⟩
/-- a value that is True or False -/
def asB : RV → Rs Bool
  | .d (.bool b) => .ok b
  | _ => .no
def cB (f : VEnv → Rs RV) : VEnv → Rs Bool := fun env => (f env).bind asB
theorem snd_test {K : PySem.W.Frag} {t : TE} {f : VEnv → Rs RV} (s : SndE K ca W t f) : SndT K ca W (tTest t) (cB f) := by
  intro B F env σ H Q st p
  show t σ H fun x H' => ∃ k, x = .bl k ∧ Q k H'
  refine seqE (PostB K ca W σ F H Q) s st p (fun _ _ h => h) (fun h => h) fun x F1 H1 v1 p1 g1 q1 => ?_
  unfold asB at p1
  split at p1
  · rename_i k
    cases q1
    exact ⟨k, rfl, p1 _ _ g1⟩
  · exact p1.elim
theorem vt_cmp {op : CmpOp} {r : R2} {g : RV → RV → Rs RV} (ho : OpR X (compareOp op) r) (hr : Op2S X.K ca r g) (ha : VE ca W X a fa) (hb : VE ca W X b fb) (hm : behindInMarks op b = false) : VT ca W X (.Compare a [op] [b] pos) (cB (c2 g fa fb)) := by
  obtain ⟨ta, pa, sa⟩ := ha
  obtain ⟨tb, pb, sb⟩ := hb
  exact ⟨_, pt_cmpR ho pa pb hm, snd_test (snd_op2 hr sa sb)⟩
theorem vt_val {f : VEnv → Rs RV} (h : VE ca W X e f) (he : ∀ whole, isTrue e X.env whole = (do let v ← whole; standAt e.pos; holding [v] (truthy v)) := by intro _; rfl) : VT ca W X e (cB f) := by
  obtain ⟨t, pe, se⟩ := h
  exact ⟨_, pt_val pe he, snd_test se⟩
def bNot (f : VEnv → Rs Bool) : VEnv → Rs Bool := fun env => (f env).bind fun b => .ok (!b)
def bAnd (f g : VEnv → Rs Bool) : VEnv → Rs Bool := fun env => (f env).bind fun b => if b = true then g env else .ok false
def bOr (f g : VEnv → Rs Bool) : VEnv → Rs Bool := fun env => (f env).bind fun b => if b = true then .ok true else g env
theorem vt_not {f : VEnv → Rs Bool} (h : VT ca W X a f) : VT ca W X (.UnaryOp .Not a pos) (bNot f) := by
  obtain ⟨t, pe, se⟩ := h
  refine ⟨_, pt_not pe, fun B F env σ H Q st p => ?_⟩
  show t σ H fun c H1 => Q (!c) H1
  exact seqT (PostB X.K ca W σ F H Q) se st p (fun _ _ h => h) (fun h => h) fun x F1 H1 p1 g1 => p1 _ _ g1
theorem vw_and1 {f : VEnv → Rs Bool} (h : VT ca W X a f) : VW ca W X (.BoolOp .And [a] pos) f := by
  obtain ⟨t, pe, se⟩ := h
  exact ⟨_, pw_and1 pe, se⟩
theorem vw_or1 {f : VEnv → Rs Bool} (h : VT ca W X a f) : VW ca W X (.BoolOp .Or [a] pos) f := by
  obtain ⟨t, pe, se⟩ := h
  exact ⟨_, pw_or1 pe, se⟩
theorem vw_and {rest : List Expr} {f g : VEnv → Rs Bool} (h : VT ca W X a f) (h2 : VW ca W X (.BoolOp .And (b :: rest) pos) g) : VW ca W X (.BoolOp .And (a :: b :: rest) pos) (bAnd f g) := by
  obtain ⟨t, pe, se⟩ := h
  obtain ⟨u, pu, su⟩ := h2
  refine ⟨_, pw_and pe pu, fun B F env σ H Q st p => ?_⟩
  show t σ H fun c H1 => if c = true then u σ H1 Q else Q false H1
  refine seqT (PostB X.K ca W σ F H Q) se st p (fun _ _ h => h) (fun h => h) fun x F1 H1 p1 g1 => ?_
  cases x with
  | true => rw [if_pos rfl]; rw [if_pos rfl] at p1; exact su B F1 env σ H1 Q (st.grow g1) (PostB.mono g1 p1)
  | false => rw [if_neg Bool.false_ne_true]; rw [if_neg Bool.false_ne_true] at p1; exact p1 _ _ g1
theorem vw_or {rest : List Expr} {f g : VEnv → Rs Bool} (h : VT ca W X a f) (h2 : VW ca W X (.BoolOp .Or (b :: rest) pos) g) : VW ca W X (.BoolOp .Or (a :: b :: rest) pos) (bOr f g) := by
  obtain ⟨t, pe, se⟩ := h
  obtain ⟨u, pu, su⟩ := h2
  refine ⟨_, pw_or pe pu, fun B F env σ H Q st p => ?_⟩
  show t σ H fun c H1 => if c = true then Q true H1 else u σ H1 Q
  refine seqT (PostB X.K ca W σ F H Q) se st p (fun _ _ h => h) (fun h => h) fun x F1 H1 p1 g1 => ?_
  cases x with
  | false => rw [if_neg Bool.false_ne_true]; rw [if_neg Bool.false_ne_true] at p1; exact su B F1 env σ H1 Q (st.grow g1) (PostB.mono g1 p1)
  | true => rw [if_pos rfl]; rw [if_pos rfl] at p1; exact p1 _ _ g1
theorem vw {f : VEnv → Rs Bool} (h : VW ca W X e f) : VT ca W X e f := by
  obtain ⟨t, pe, se⟩ := h
  exact ⟨_, pe.pt, se⟩
/-! and, or, not as values (truth values) -/
def vAnd (f g : VEnv → Rs RV) : VEnv → Rs RV := fun env => (cB f env).bind fun b => if b = true then g env else .ok (.d (.bool false))
def vOr (f g : VEnv → Rs RV) : VEnv → Rs RV := fun env => (cB f env).bind fun b => if b = true then .ok (.d (.bool true)) else g env
def vNot (f : VEnv → Rs RV) : VEnv → Rs RV := fun env => (cB f env).bind fun b => .ok (.d (.bool (!b)))
theorem ve_one {op} {f : VEnv → Rs RV} (h : VE ca W X a f) : VE ca W X (.BoolOp op [a] pos) f := by
  obtain ⟨t, pe, se⟩ := h
  exact ⟨_, pe_one pe, se⟩
theorem seqBE {K : PySem.W.Frag} {B : Base} {F H : Hp} {env : VEnv} {σ : L2.St} {t : TE} {f : VEnv → Rs RV} {Q : VK} {α : Type} {k : Bool → Rs α} (P : Rs α → Prop) (s : SndE K ca W t f) (st : StOk K B F env σ H)
    (post : P ((cB f env).bind k)) (hx : ∀ c fs, P (.ex c fs) → PostX K ca W σ F H c fs) (hn : ¬ P .no)
    (h : ∀ r F1 H1, P (k r) → Grow F H F1 H1 → Q (.bl r) H1) : t σ H Q := by
  refine s B F env σ H Q st ?_
  unfold cB at post
  cases e : f env with
  | ok r =>
    rw [e] at post
    intro F' H' v g q
    cases r with
    | d x =>
      cases x with
      | bool b => cases q; exact h b F' H' post g
      | _ => exact absurd post hn
    | _ => exact absurd post hn
  | ex c fs => rw [e] at post; exact hx c fs post
  | no => rw [e] at post; exact hn post
theorem ve_and {rest : List Expr} {f g : VEnv → Rs RV} (h : VE ca W X a f) (h2 : VE ca W X (.BoolOp .And (b :: rest) pos) g) : VE ca W X (.BoolOp .And (a :: b :: rest) pos) (vAnd f g) := by
  obtain ⟨t, pe, se⟩ := h
  obtain ⟨u, pu, su⟩ := h2
  refine ⟨_, pe_and pe pu, fun B F env σ H Q st p => ?_⟩
  show t σ H fun x H1 => ∃ c, x = .bl c ∧ if c = true then u σ H1 Q else Q (.bl false) H1
  refine seqBE (PostE X.K ca W σ F H Q) se st p (fun _ _ h => h) (fun h => h) fun x F1 H1 p1 g1 => ⟨x, rfl, ?_⟩
  cases x with
  | true => rw [if_pos rfl]; rw [if_pos rfl] at p1; exact su B F1 env σ H1 Q (st.grow g1) (PostE.mono g1 p1)
  | false => rw [if_neg Bool.false_ne_true]; rw [if_neg Bool.false_ne_true] at p1; exact p1 _ _ _ g1 (.bl false)
theorem ve_or {rest : List Expr} {f g : VEnv → Rs RV} (h : VE ca W X a f) (h2 : VE ca W X (.BoolOp .Or (b :: rest) pos) g) : VE ca W X (.BoolOp .Or (a :: b :: rest) pos) (vOr f g) := by
  obtain ⟨t, pe, se⟩ := h
  obtain ⟨u, pu, su⟩ := h2
  refine ⟨_, pe_or pe pu, fun B F env σ H Q st p => ?_⟩
  show t σ H fun x H1 => ∃ c, x = .bl c ∧ if c = true then Q (.bl true) H1 else u σ H1 Q
  refine seqBE (PostE X.K ca W σ F H Q) se st p (fun _ _ h => h) (fun h => h) fun x F1 H1 p1 g1 => ⟨x, rfl, ?_⟩
  cases x with
  | false => rw [if_neg Bool.false_ne_true]; rw [if_neg Bool.false_ne_true] at p1; exact su B F1 env σ H1 Q (st.grow g1) (PostE.mono g1 p1)
  | true => rw [if_pos rfl]; rw [if_pos rfl] at p1; exact p1 _ _ _ g1 (.bl true)
theorem ve_not {f : VEnv → Rs RV} (h : VE ca W X a f) : VE ca W X (.UnaryOp .Not a pos) (vNot f) := by
  obtain ⟨t, pe, se⟩ := h
  refine ⟨_, pe_not pe, fun B F env σ H Q st p => ?_⟩
  show t σ H fun x H1 => ∃ c, x = .bl c ∧ Q (.bl (!c)) H1
  exact seqBE (PostE X.K ca W σ F H Q) se st p (fun _ _ h => h) (fun h => h) fun x F1 H1 p1 g1 => ⟨x, rfl, p1 _ _ _ g1 (.bl _)⟩
def vIf (t : VEnv → Rs Bool) (f g : VEnv → Rs RV) : VEnv → Rs RV := fun env => (t env).bind fun b => if b = true then f env else g env
theorem ve_ifExp {c : Expr} {tc : VEnv → Rs Bool} (hc : VT ca W X c tc) (ha : VE ca W X a fa) (hb : VE ca W X b fb) : VE ca W X (.IfExp c a b pos) (vIf tc fa fb) := by
  obtain ⟨t, pe, se⟩ := hc
  obtain ⟨ta, pa, sa⟩ := ha
  obtain ⟨tb, pb, sb⟩ := hb
  refine ⟨_, pe_ifExp pe pa pb, fun B F env σ H Q st p => ?_⟩
  show t σ H fun c H1 => if c = true then ta σ H1 Q else tb σ H1 Q
  refine seqT (PostE X.K ca W σ F H Q) se st p (fun _ _ h => h) (fun h => h) fun x F1 H1 p1 g1 => ?_
  cases x with
  | true => rw [if_pos rfl]; rw [if_pos rfl] at p1; exact sa B F1 env σ H1 Q (st.grow g1) (PostE.mono g1 p1)
  | false => rw [if_neg Bool.false_ne_true]; rw [if_neg Bool.false_ne_true] at p1; exact sb B F1 env σ H1 Q (st.grow g1) (PostE.mono g1 p1)

/-! ## calls -/
theorem snd_call {K : PySem.W.Frag} {r : List V → Hp → VK → Prop} {g : List RV → Rs RV} {t : TA} {f : VEnv → Rs (List RV)} (hr : CaS K ca r g) (sa : SndA K ca W t f) : SndE K ca W (tCB r t) (cA g f) := by
  intro B F env σ H Q st p
  show t σ H fun vs H1 => r vs H1 Q
  refine seqA (PostE K ca W σ F H Q) sa st p (fun _ _ h => h) (fun h => h) fun rs F1 H1 vs p1 g1 q1 => ?_
  exact hr W σ F H F1 H1 vs rs Q g1 q1 p1
theorem ve_callB {id : String} {x : Str} {p : Pos} {r : List V → Hp → VK → Prop} {g : List RV → Rs RV} {f : VEnv → Rs (List RV)} (hc : CallR X (.builtin id) r) (hr : CaS X.K ca r g) (hg : Gl X x) (hm : X.mg x = none) (hv : bootBuiltins x = some (.builtin id)) (ha : VA ca W X (e :: es) f) (hn : x ≠ "__name__" := by decide) (hdb : (x == ("__debug__" : Str)) = false := by decide)
    (he : starEach (e :: es) X.env = (false, eval e X.env) :: starEach es X.env := by rfl) (hpl : (backTo pos (starEach es X.env)).any (·.1) = false := by rfl) : VE ca W X (.Call (.Name x p) (e :: es) [] pos) (cA g f) := by
  obtain ⟨t, pa, sa⟩ := ha
  exact ⟨_, pe_callB hc hg hm hv pa hn hdb he hpl, snd_call hr sa⟩
theorem ve_callTy {T : String} {x : Str} {p : Pos} {r : List V → Hp → VK → Prop} {g : List RV → Rs RV} {f : VEnv → Rs (List RV)} (hc : CallR X (.type T) r) (hr : CaS X.K ca r g) (hg : Gl X x) (hm : X.mg x = none) (hv : bootBuiltins x = some (.type T)) (ha : VA ca W X (e :: es) f) (hn : x ≠ "__name__" := by decide) (hdb : (x == ("__debug__" : Str)) = false := by decide)
    (he : starEach (e :: es) X.env = (false, eval e X.env) :: starEach es X.env := by rfl) (hpl : (backTo pos (starEach es X.env)).any (·.1) = false := by rfl) : VE ca W X (.Call (.Name x p) (e :: es) [] pos) (cA g f) := by
  obtain ⟨t, pa, sa⟩ := ha
  exact ⟨_, pe_callTy hc hg hm hv pa hn hdb he hpl, snd_call hr sa⟩
end
end VL

namespace VL
open PySem PySem.Spec PyProof.Rows L2

/-! ## statements -/
inductive Out where
  | nx (env : VEnv) | rt (r : RV) | bk (env : VEnv) | ct (env : VEnv)
  | ex (c : Nat) (fs : List (Str × PyData)) (env : VEnv)
  | no
def Out.then : Out → (VEnv → Out) → Out
  | .nx env, f => f env
  | o, _ => o
@[simp] theorem Out.then_nx (env f) : (Out.nx env).then f = f env := rfl
@[simp] theorem Out.then_rt (r f) : (Out.rt r).then f = .rt r := rfl
@[simp] theorem Out.then_bk (r f) : (Out.bk r).then f = .bk r := rfl
@[simp] theorem Out.then_ct (r f) : (Out.ct r).then f = .ct r := rfl
@[simp] theorem Out.then_ex (c fs e f) : (Out.ex c fs e).then f = .ex c fs e := rfl
@[simp] theorem Out.then_no (f) : Out.no.then f = .no := rfl
def Rs.out {α : Type} (m : Rs α) (env : VEnv) (f : α → Out) : Out := match m with
  | .ok a => f a
  | .ex c fs => .ex c fs env
  | .no => .no
@[simp] theorem Rs.out_ok {α : Type} (a : α) (env f) : (Rs.ok a).out env f = f a := rfl
@[simp] theorem Rs.out_ex {α : Type} (c fs env) (f : α → Out) : (Rs.ex c fs : Rs α).out env f = .ex c fs env := rfl
@[simp] theorem Rs.out_no {α : Type} (env) (f : α → Out) : (Rs.no : Rs α).out env f = .no := rfl

section
variable (K : PySem.W.Frag) (ca : Nat → Addr) (W : WX) (B : Base) (F0 : Hp)
def PostS (D : Ends) : Out → Prop
  | .nx env => ∀ F σ H, Same F0 F → StOk K B F env σ H → D.nx σ H
  | .bk env => ∀ F σ H, Same F0 F → StOk K B F env σ H → D.bk σ H
  | .ct env => ∀ F σ H, Same F0 F → StOk K B F env σ H → D.ct σ H
  | .rt r => ∀ F H v, Grow B.F B.H F H → RVok K B.H F H v r → D.rt v H
  | .ex c fs env => ∀ F σ H cls dx, Same F0 F → StOk K B F env σ H → ExOk K ca F H cls dx c fs → W cls dx σ H
  | .no => False
end
theorem PostS.mono {K : PySem.W.Frag} {ca : Nat → Addr} {W : WX} {B : Base} {F0 F1 : Hp} {D : Ends} {o : Out} (e : Same F0 F1) (h : PostS K ca W B F0 D o) : PostS K ca W B F1 D o := by
  cases o with
  | nx env => exact fun F σ H s st => h F σ H (e.trans s) st
  | bk env => exact fun F σ H s st => h F σ H (e.trans s) st
  | ct env => exact fun F σ H s st => h F σ H (e.trans s) st
  | rt r => exact h
  | ex c fs env => exact fun F σ H cls dx s st => h F σ H cls dx (e.trans s) st
  | no => exact h
def SndS (K : PySem.W.Frag) (ca : Nat → Addr) (W : WX) (t : TS) (f : VEnv → Out) : Prop := ∀ B F env σ H D, StOk K B F env σ H → PostS K ca W B F D (f env) → t D σ H
structure VS (ca : Nat → Addr) (W : WX) (X : Cx) (st : Stmt) (f : VEnv → Out) : Prop where
  ex : ∃ t, PS X st t ∧ SndS X.K ca W t f
structure VSs (ca : Nat → Addr) (W : WX) (X : Cx) (st : List Stmt) (f : VEnv → Out) : Prop where
  ex : ∃ t, PSs X st t ∧ SndS X.K ca W t f

section
variable {K : PySem.W.Frag} {ca : Nat → Addr} {W : WX} {B : Base} {F H : Hp} {env : VEnv} {σ : L2.St}
theorem exOut {c : Nat} {fs : List (Str × PyData)} {D : Ends} (st : StOk K B F env σ H) (h : PostS K ca W B F D (.ex c fs env)) : PostX K ca W σ F H c fs :=
  fun F' H' cls dx g e => h F' σ H' cls dx g.ff (st.grow g) e
theorem outE {t : TE} {f : VEnv → Rs RV} {Q : VK} {D : Ends} {k : RV → Out} (s : SndE K ca W t f) (st : StOk K B F env σ H)
    (post : PostS K ca W B F D ((f env).out env k)) (h : ∀ r F1 H1 v, PostS K ca W B F1 D (k r) → Grow F H F1 H1 → RVok K H F1 H1 v r → Q v H1) : t σ H Q := by
  refine s B F env σ H Q st ?_
  cases e : f env with
  | ok r => rw [e] at post; exact fun F' H' v g q => h r F' H' v (PostS.mono g.ff post) g q
  | ex c fs => rw [e] at post; exact exOut st post
  | no => rw [e] at post; exact post
theorem outT {t : TT} {f : VEnv → Rs Bool} {Q : Bool → Hp → Prop} {D : Ends} {k : Bool → Out} (s : SndT K ca W t f) (st : StOk K B F env σ H)
    (post : PostS K ca W B F D ((f env).out env k)) (h : ∀ r F1 H1, PostS K ca W B F1 D (k r) → Grow F H F1 H1 → Q r H1) : t σ H Q := by
  refine s B F env σ H Q st ?_
  cases e : f env with
  | ok r => rw [e] at post; exact fun F' H' g => h r F' H' (PostS.mono g.ff post) g
  | ex c fs => rw [e] at post; exact exOut st post
  | no => rw [e] at post; exact post
/-- a slot gets a value of its own or plain data -/
theorem StOk.put (st : StOk K B F env σ H) {i : Nat} (hi : i < env.length) {v : V} {r : RV} (q : RVok K B.H F H v r) (hb : r.isB = false)
    (hd : r.own = true → ∀ (j : Nat) (r' : RV) (p : Addr), j ≠ i → env[j]? = some (some r') → r'.own = true → v = .ref p → σ[j]? ≠ some (some (.ref p))) : StOk K B F (env.set i (some r)) (σ.set i (some v)) H := by
  have hi' : i < σ.length := by rw [← st.len]; exact hi
  refine ⟨st.gr, by simp [st.len], fun j r1 e => ?_, fun j r1 p e o s => ?_, fun j k r1 r2 p jk e1 e2 o1 o2 s1 s2 => ?_⟩
  · by_cases h : i = j
    · subst h
      rw [List.getElem?_set_self hi] at e
      cases e
      exact ⟨v, by rw [List.getElem?_set_self hi'], q⟩
    · rw [List.getElem?_set_ne h] at e
      obtain ⟨w, e1, q1⟩ := st.sl j r1 e
      exact ⟨w, by rw [List.getElem?_set_ne h]; exact e1, q1⟩
  · by_cases h : i = j
    · subst h
      rw [List.getElem?_set_self hi] at e
      cases e
      rw [hb] at o; cases o
    · rw [List.getElem?_set_ne h] at e s
      exact st.bo j r1 p e o s
  · by_cases h1 : i = j
    · subst h1
      rw [List.getElem?_set_self hi] at e1
      rw [List.getElem?_set_self hi'] at s1
      rw [List.getElem?_set_ne jk] at e2 s2
      cases e1
      exact hd o1 k r2 p (Ne.symm jk) e2 o2 (Option.some.inj (Option.some.inj s1)) s2
    · rw [List.getElem?_set_ne h1] at e1 s1
      by_cases h2 : i = k
      · subst h2
        rw [List.getElem?_set_self hi] at e2
        rw [List.getElem?_set_self hi'] at s2
        cases e2
        exact hd o2 j r1 p (Ne.symm h1) e1 o1 (Option.some.inj (Option.some.inj s2)) s1
      · rw [List.getElem?_set_ne h2] at e2 s2
        exact st.dis j k r1 r2 p jk e1 e2 o1 o2 s1 s2
/-- a value that came out of an expression over this state -/
theorem StOk.putE {F1 H1 : Hp} (st : StOk K B F env σ H) (g : Grow F H F1 H1) {i : Nat} (hi : i < env.length) {v : V} {r : RV} (q : RVok K H F1 H1 v r) (hb : r.isB = false) : StOk K B F1 (env.set i (some r)) (σ.set i (some v)) H1 := by
  refine (st.grow g).put hi (q.older st.gr.hh) hb fun o j r' p ji e o' ev s => ?_
  obtain ⟨w, e1, q1⟩ := st.sl j r' e
  rw [s] at e1
  cases e1
  have hp : ∃ ob, H p = some ob := by
    cases r' with
    | ol xs => obtain ⟨a, vs, z, _, _, hp, _⟩ := q1; cases z; exact ⟨_, hp⟩
    | od xs => obtain ⟨a, vs, z, _, _, hp, _⟩ := q1; cases z; exact ⟨_, hp⟩
    | ot xs => obtain ⟨a, vs, z, _, _, hp, _⟩ := q1; cases z; exact ⟨_, hp⟩
    | _ => cases o'
  obtain ⟨ob, hp⟩ := hp
  have hn : H p = none := by
    cases r with
    | ol xs => obtain ⟨a, vs, z, n, _⟩ := q; rw [ev] at z; cases z; exact n
    | od xs => obtain ⟨a, vs, z, n, _⟩ := q; rw [ev] at z; cases z; exact n
    | ot xs => obtain ⟨a, vs, z, n, _⟩ := q; rw [ev] at z; cases z; exact n
    | _ => cases o
  rw [hn] at hp; cases hp
/-- a slot forgotten -/
theorem StOk.drop (st : StOk K B F env σ H) (i : Nat) : StOk K B F (env.set i none) (σ.set i none) H := by
  refine ⟨st.gr, by simp [st.len], fun j r1 e => ?_, fun j r1 p e o s => ?_, fun j k r1 r2 p jk e1 e2 o1 o2 s1 s2 => ?_⟩
  · by_cases h : i = j
    · subst h
      by_cases hi : i < env.length
      · rw [List.getElem?_set_self hi] at e; cases e
      · rw [List.getElem?_eq_none (by simpa using hi)] at e; cases e
    · rw [List.getElem?_set_ne h] at e
      obtain ⟨w, e1, q1⟩ := st.sl j r1 e
      exact ⟨w, by rw [List.getElem?_set_ne h]; exact e1, q1⟩
  · by_cases h : i = j
    · subst h
      by_cases hi : i < env.length
      · rw [List.getElem?_set_self hi] at e; cases e
      · rw [List.getElem?_eq_none (by simpa using hi)] at e; cases e
    · rw [List.getElem?_set_ne h] at e s
      exact st.bo j r1 p e o s
  · by_cases h1 : i = j
    · subst h1
      by_cases hi : i < env.length
      · rw [List.getElem?_set_self hi] at e1; cases e1
      · rw [List.getElem?_eq_none (by simpa using hi)] at e1; cases e1
    · by_cases h2 : i = k
      · subst h2
        by_cases hi : i < env.length
        · rw [List.getElem?_set_self hi] at e2; cases e2
        · rw [List.getElem?_eq_none (by simpa using hi)] at e2; cases e2
      · rw [List.getElem?_set_ne h1] at e1 s1
        rw [List.getElem?_set_ne h2] at e2 s2
        exact st.dis j k r1 r2 p jk e1 e2 o1 o2 s1 s2
end

/-! ### freezing a slot's list -/
def fzE (i : Nat) (env : VEnv) : VEnv := match env[i]? with
  | some (some (.ol xs)) => env.set i (some (.d (.list xs)))
  | _ => env
theorem StOk.fz {K : PySem.W.Frag} {B : Base} {F H : Hp} {env : VEnv} {σ : L2.St} (st : StOk K B F env σ H) (i : Nat) : ∃ F', Same F F' ∧ StOk K B F' (fzE i env) σ H := by
  unfold fzE
  split
  · rename_i xs e
    obtain ⟨v, e1, p, vs, rfl, n0, f, hp, q⟩ := st.sl i _ e
    have hi : i < env.length := (List.getElem?_eq_some_iff.mp e).1
    have s1 : Same F (upd F p (.lst vs)) := fun b u k => by rw [upd_ne (ne_of_none k f)]; exact k
    refine ⟨upd F p (.lst vs), s1, st.gr.freeze n0 f hp, by simpa using st.len, fun j r e2 => ?_, fun j r a e2 o z => ?_, fun j k r1 r2 a jk q1 q2 o1 o2 z1 z2 => ?_⟩
    · by_cases h : i = j
      · subst h
        rw [List.getElem?_set_self hi] at e2
        cases e2
        exact ⟨_, e1, .lst upd_same (DqA.mono s1 _ _ q)⟩
      · rw [List.getElem?_set_ne h] at e2
        obtain ⟨w, e3, q3⟩ := st.sl j r e2
        refine ⟨w, e3, ?_⟩
        have ne : ∀ a, r.own = true → w = .ref a → a ≠ p := fun a o z y => by
          subst y; subst z
          exact st.dis i j (.ol xs) r a h e e2 rfl o e1 e3
        cases r with
        | d x => exact Dq.mono s1 x w q3
        | ol ys => obtain ⟨a, ws, z, n, f2, h2, q4⟩ := q3; exact ⟨a, ws, z, n, by rw [upd_ne (ne a rfl z)]; exact f2, h2, DqA.mono s1 _ _ q4⟩
        | od ys => obtain ⟨a, ws, z, n, f2, h2, q4⟩ := q3; exact ⟨a, ws, z, n, by rw [upd_ne (ne a rfl z)]; exact f2, h2, q4.mono s1⟩
        | ot ys => obtain ⟨a, ws, z, n, f2, h2, q4⟩ := q3; exact ⟨a, ws, z, n, by rw [upd_ne (ne a rfl z)]; exact f2, h2, q4.mono s1⟩
        | sc ns => obtain ⟨a, z, q4⟩ := q3; exact ⟨a, z, s1.seq q4⟩
        | bl ys => obtain ⟨a, ws, z, h2, q4⟩ := q3; exact ⟨a, ws, z, h2, DqA.mono s1 _ _ q4⟩
        | bd ys => obtain ⟨a, ws, z, h2, q4⟩ := q3; exact ⟨a, ws, z, h2, q4.mono s1⟩
        | bt ys => obtain ⟨a, ws, z, h2, q4⟩ := q3; exact ⟨a, ws, z, h2, q4.mono s1⟩
        | xo a dd c fs => obtain ⟨z, ws, h2, q4⟩ := q3; exact ⟨z, ws, h2, q4.mono s1⟩
    · by_cases h : i = j
      · subst h; rw [List.getElem?_set_self hi] at e2; cases e2; cases o
      · rw [List.getElem?_set_ne h] at e2
        exact st.bo j r a e2 o z
    · by_cases h1 : i = j
      · subst h1; rw [List.getElem?_set_self hi] at q1; cases q1; cases o1
      · by_cases h2 : i = k
        · subst h2; rw [List.getElem?_set_self hi] at q2; cases q2; cases o2
        · rw [List.getElem?_set_ne h1] at q1
          rw [List.getElem?_set_ne h2] at q2
          exact st.dis j k r1 r2 a jk q1 q2 o1 o2 z1 z2
  · exact ⟨F, Same.refl _, st⟩
end VL

namespace VL
open PySem PySem.Spec PyProof.Rows L2

section
variable {ca : Nat → Addr} {W : WX} {X : Cx} {a b e : Expr} {es : List Expr} {fa fb : VEnv → Rs RV} {pos : Pos} {st : Stmt} {rest : List Stmt} {f g : VEnv → Out}
/-! ### blocks -/
def sNil : VEnv → Out := fun env => .nx env
def sSeq (f g : VEnv → Out) : VEnv → Out := fun env => (f env).then g
theorem vss_nil : VSs ca W X [] sNil := ⟨_, pss_nil, fun _ _ _ _ _ _ st p => p _ _ _ (Same.refl _) st⟩
theorem vss_cons (h1 : VS ca W X st f) (h2 : VSs ca W X rest g) : VSs ca W X (st :: rest) (sSeq f g) := by
  obtain ⟨t, p1, s1⟩ := h1
  obtain ⟨u, p2, s2⟩ := h2
  refine ⟨_, pss_cons p1 p2, fun B F env σ H D st p => ?_⟩
  show t { D with nx := u D } σ H
  refine s1 B F env σ H _ st ?_
  unfold sSeq at p
  cases e : f env with
  | nx env' => rw [e] at p; exact fun F' σ' H' s st' => s2 B F' env' σ' H' D st' (PostS.mono s p)
  | bk env' => rw [e] at p; exact p
  | ct env' => rw [e] at p; exact p
  | rt r => rw [e] at p; exact p
  | ex c fs env' => rw [e] at p; exact p
  | no => rw [e] at p; exact p
theorem vss_one (h1 : VS ca W X st f) : VSs ca W X [st] f := by
  obtain ⟨t, p1, s1⟩ := h1
  exact ⟨_, pss_one p1, s1⟩
def sFz (i : Nat) (f : VEnv → Out) : VEnv → Out := fun env => f (fzE i env)
theorem vs_fz (i : Nat) (h : VS ca W X st f) : VS ca W X st (sFz i f) := by
  obtain ⟨t, p1, s1⟩ := h
  refine ⟨t, p1, fun B F env σ H D st p => ?_⟩
  obtain ⟨F', s, st'⟩ := st.fz i
  exact s1 B F' (fzE i env) σ H D st' (PostS.mono s p)
/-! ### small statements -/
def sBk : VEnv → Out := fun env => .bk env
def sCt : VEnv → Out := fun env => .ct env
theorem vs_pass : VS ca W X (.Pass pos) sNil := ⟨_, ps_pass, fun _ _ _ _ _ _ st p => p _ _ _ (Same.refl _) st⟩
theorem vs_break : VS ca W X (.Break pos) sBk := ⟨_, ps_break, fun _ _ _ _ _ _ st p => p _ _ _ (Same.refl _) st⟩
theorem vs_continue : VS ca W X (.Continue pos) sCt := ⟨_, ps_continue, fun _ _ _ _ _ _ st p => p _ _ _ (Same.refl _) st⟩
/-- no borrowed thing is handed on -/
def RV.nb : RV → Rs RV
  | .bl _ | .bd _ | .bt _ => .no
  | r => .ok r
def sRet (fe : VEnv → Rs RV) : VEnv → Out := fun env => (fe env).out env fun r => (r.nb).out env .rt
theorem vs_ret (he : VE ca W X e fa) : VS ca W X (.Return (some e) pos) (sRet fa) := by
  obtain ⟨t, pe, se⟩ := he
  refine ⟨_, ps_ret pe, fun B F env σ H D st p => ?_⟩
  refine outE (t := t) (Q := D.rt) se st p fun r F1 H1 v p1 g q => ?_
  cases r with
  | bl _ => exact p1.elim
  | bd _ => exact p1.elim
  | bt _ => exact p1.elim
  | _ => exact p1 F1 H1 v (st.gr.trans g) (q.older st.gr.hh)
/-- return x, x a list or dict of the def's own -/
def sRetV (i : Nat) : VEnv → Out := fun env => match env[i]? with
  | some (some r) => (r.nb).out env .rt
  | _ => .no
theorem vs_retv (i : Nat) {x : Str} {p' : Pos} (hN : X.N[i]? = some x := by rfl) (hv : Vis X.env.scope x := by first | exact Or.inl rfl | exact Or.inr (Or.inl rfl) | exact Or.inr (Or.inr rfl)) (hd : (x == ("__debug__" : Str)) = false := by decide)
    (hcd : (x == ("__classdict__" : Str)) = false := by decide) : VS ca W X (.Return (some (.Name x p')) pos) (sRetV i) := by
  refine ⟨_, ps_ret (pe_var hN hv hd hcd), fun B F env σ H D st p => ?_⟩
  unfold sRetV at p
  split at p
  · rename_i r e
    obtain ⟨v, e1, h⟩ := st.sl i r e
    refine ⟨v, e1, ?_⟩
    cases r with
    | bl _ => exact p.elim
    | bd _ => exact p.elim
    | bt _ => exact p.elim
    | _ => exact p F H v st.gr h
  · exact p.elim
def sRetN : VEnv → Out := fun _ => .rt (.d .none)
theorem vs_retN : VS ca W X (.Return none pos) sRetN := ⟨_, ps_retN, fun _ _ _ _ _ _ st p => p _ _ _ st.gr .non⟩
def sDrop (fe : VEnv → Rs RV) : VEnv → Out := fun env => (fe env).out env fun _ => .nx env
theorem vs_expr (he : VE ca W X e fa) (hs : swapsWith e none pos.line X.env = pure false := by rfl) : VS ca W X (.Expr e pos) (sDrop fa) := by
  obtain ⟨t, pe, se⟩ := he
  refine ⟨_, ps_expr pe hs, fun B F env σ H D st p => ?_⟩
  show t σ H fun _ H1 => D.nx σ H1
  exact outE se st p fun r F1 H1 v p1 g q => p1 F1 σ H1 (Same.refl _) (st.grow g)
/-- a name gets a value -/
def putS (i : Nat) (r : RV) (env : VEnv) : Out := (r.nb).out env fun r => if i < env.length then .nx (env.set i (some r)) else .no
def sSet (i : Nat) (fe : VEnv → Rs RV) : VEnv → Out := fun env => (fe env).out env fun r => putS i r env
theorem snd_put {K : PySem.W.Frag} {B : Base} {F H F1 H1 : Hp} {env : VEnv} {σ : L2.St} {D : Ends} {i : Nat} {r : RV} {v : V} (st : StOk K B F env σ H) (g : Grow F H F1 H1) (q : RVok K H F1 H1 v r) (p : PostS K ca W B F1 D (putS i r env)) : D.nx (σ.set i (some v)) H1 := by
  unfold putS at p
  have go : ∀ r' : RV, r.nb = .ok r' → r' = r := fun r' e => by cases r <;> cases e <;> rfl
  cases e : r.nb with
  | ok r' =>
    rw [e] at p
    cases go r' e
    simp only [Rs.out_ok] at p
    split at p
    · rename_i hi
      exact p F1 _ H1 (Same.refl _) (st.putE g hi q (by cases r <;> first | rfl | cases e))
    · exact p.elim
  | ex c fs => exact absurd e (by cases r <;> simp [RV.nb])
  | no => rw [e] at p; exact p.elim
theorem vs_set {i : Nat} {x : Str} {pos' : Pos} (hN : X.N.Nodup) (hi : X.N[i]? = some x) (hx : Loc X.env.scope x) (he : VE ca W X e fa) (hs : swapsWith e (some (.Name x pos')) pos.line X.env = pure false := by rfl) (hf : X.fn x = true ∨ X.env.scope.names.lookup x = some .local := by first | exact .inl rfl | exact .inr rfl | assumption) :
    VS ca W X (.Assign [.Name x pos'] e pos) (sSet i fa) := by
  obtain ⟨t, pe, se⟩ := he
  refine ⟨_, ps_set hN hi hx pe hs hf, fun B F env σ H D st p => ?_⟩
  show t σ H fun x H1 => D.nx (σ.set i (some x)) H1
  exact outE se st p fun r F1 H1 v p1 g q => snd_put st g q p1
def sIf (c : VEnv → Rs Bool) (f g : VEnv → Out) : VEnv → Out := fun env => (c env).out env fun b => if b = true then f env else g env
theorem vs_if {c : Expr} {ss tt : List Stmt} {tc : VEnv → Rs Bool} (hc : VT ca W X c tc) (ha : VSs ca W X ss f) (hb : VSs ca W X tt g) : VS ca W X (.If c ss tt pos) (sIf tc f g) := by
  obtain ⟨t, pe, se⟩ := hc
  obtain ⟨ta, pa, sa⟩ := ha
  obtain ⟨tb, pb, sb⟩ := hb
  refine ⟨_, ps_if pe pa pb, fun B F env σ H D st p => ?_⟩
  show t σ H fun b H1 => if b = true then ta D σ H1 else tb D σ H1
  refine outT se st p fun b F1 H1 p1 g => ?_
  cases b with
  | true => rw [if_pos rfl]; rw [if_pos rfl] at p1; exact sa B F1 env σ H1 D (st.grow g) p1
  | false => rw [if_neg Bool.false_ne_true]; rw [if_neg Bool.false_ne_true] at p1; exact sb B F1 env σ H1 D (st.grow g) p1

/-! ### while -/
def loopW (c : VEnv → Rs Bool) (f : VEnv → Out) : Nat → VEnv → Out
  | 0, _ => .no
  | n + 1, env => (c env).out env fun b => if b = true then
      (match f env with
        | .nx e => loopW c f n e
        | .ct e => loopW c f n e
        | .bk e => .nx e
        | o => o) else .nx env
def sWhile (n : Nat) (c : VEnv → Rs Bool) (f : VEnv → Out) : VEnv → Out := loopW c f n
theorem vs_while {c : Expr} {body : List Stmt} {tc : VEnv → Rs Bool} (n : Nat) (hp : PassesOwn (model X.prog X.w) X.A X.env X.xe) (hc : VT ca W X c tc) (hb : VSs ca W X body f) : VS ca W X (.While c body [] pos) (sWhile n tc f) := by
  obtain ⟨t, pe, se⟩ := hc
  obtain ⟨tb, pb, sb⟩ := hb
  refine ⟨_, ps_while hp pe pb, fun B F env σ H D st p => ?_⟩
  refine ⟨fun m σ H => ∃ F' env', Same F F' ∧ StOk X.K B F' env' σ H ∧ PostS X.K ca W B F' D (loopW tc f m env'), ⟨n, F, env, Same.refl _, st, p⟩, ?_⟩
  rintro m σ1 H1 ⟨F1, env1, s1, st1, p1⟩
  cases m with
  | zero => exact p1.elim
  | succ m =>
    unfold loopW at p1
    refine outT se st1 p1 fun b F2 H2 p2 g => ?_
    cases b with
    | false => rw [if_neg Bool.false_ne_true]; rw [if_neg Bool.false_ne_true] at p2; exact p2 F2 σ1 H2 (Same.refl _) (st1.grow g)
    | true =>
      rw [if_pos rfl]; rw [if_pos rfl] at p2
      refine ⟨fun σ' H' => ∃ F' env', Same F F' ∧ StOk X.K B F' env' σ' H' ∧ PostS X.K ca W B F' D (loopW tc f m env'), fun σ' H' z => ⟨m, Nat.lt_succ_self m, z⟩, ?_⟩
      refine sb B F2 env1 σ1 H2 _ (st1.grow g) ?_
      cases e : f env1 with
      | nx env' => rw [e] at p2; exact fun F' σ' H' s st' => ⟨F', env', (s1.trans g.ff).trans s, st', PostS.mono s p2⟩
      | ct env' => rw [e] at p2; exact fun F' σ' H' s st' => ⟨F', env', (s1.trans g.ff).trans s, st', PostS.mono s p2⟩
      | bk env' => rw [e] at p2; exact p2
      | rt r => rw [e] at p2; exact p2
      | ex c fs env' => rw [e] at p2; exact p2
      | no => rw [e] at p2; exact p2

/-! ### what is walked -/
structure JWalk (J : It) (G : Hp) (vs : List V) : Prop where
  go : ∀ i H, Same G H → i < vs.length → J.go i H
  yld : ∀ i H x H', Same G H → J.yld i H x H' → i < vs.length → H' = H ∧ vs[i]? = some x
  stop : ∀ H, Same G H → J.stop vs.length H
theorem jw_list {K : PySem.W.Frag} {G : Hp} {a : Addr} {vs : List V} (h : SqL K G a vs) : JWalk (Itl K a) G vs where
  go := fun i H s hi => ⟨vs, vs[i], s.seq h, by simp [hi]⟩
  yld := fun i H x H' s y hi => ⟨y.1, y.2 vs (s.seq h)⟩
  stop := fun H s => ⟨vs, s.seq h, Nat.le_refl _⟩
theorem jw_tup {K : PySem.W.Frag} {G : Hp} {a : Addr} {vs : List V} (h : SqT K G a vs) : JWalk (Itt K a) G vs where
  go := fun i H s hi => ⟨vs, vs[i], same_seqT s h, by simp [hi]⟩
  yld := fun i H x H' s y hi => ⟨y.1, y.2 vs (same_seqT s h)⟩
  stop := fun H s => ⟨vs, same_seqT s h, Nat.le_refl _⟩
def rngL (lo : Int) (n : Nat) : List PyData := (List.range n).map fun i : Nat => .int (lo + (i : Int))
theorem jw_rng {G : Hp} (lo : Int) (n : Nat) : JWalk (Itr lo n) G ((List.range n).map fun i : Nat => V.int (lo + (i : Int))) where
  go := fun i H s hi => by
    have hi' : i < n := by simpa using hi
    exact hi'
  yld := fun i H x H' s y hi => by
    have hi' : i < n := by simpa using hi
    refine ⟨y.1, ?_⟩
    rw [y.2, List.getElem?_map, List.getElem?_range hi']
    rfl
  stop := fun H s => by show n ≤ _; simp
def PostI (K : PySem.W.Frag) (ca : Nat → Addr) (W : WX) (σ : L2.St) (F H : Hp) (R : It → Hp → Prop) : Rs (List PyData) → Prop
  | .ok xs => ∀ J F' H' vs, Grow F H F' H' → DqA K F' vs xs → JWalk J F' vs → R J H'
  | .ex c fs => PostX K ca W σ F H c fs
  | .no => False
def SndI (K : PySem.W.Frag) (ca : Nat → Addr) (W : WX) (t : TI) (f : VEnv → Rs (List PyData)) : Prop := ∀ B F env σ H R, StOk K B F env σ H → PostI K ca W σ F H R (f env) → t σ H R
structure VI (ca : Nat → Addr) (W : WX) (X : Cx) (tg iter : Expr) (f : VEnv → Rs (List PyData)) : Prop where
  ex : ∃ t, PI X tg iter t ∧ SndI X.K ca W t f
/-- for a comprehension: a borrowed list, too -/
def PostJ (K : PySem.W.Frag) (ca : Nat → Addr) (W : WX) (σ : L2.St) (F H : Hp) (R : It → Hp → Prop) : Rs (List PyData) → Prop
  | .ok xs => ∀ J F' H' vs, Grow F H F' H' → DqA K F' vs xs → JWalk J H' vs → R J H'
  | .ex c fs => PostX K ca W σ F H c fs
  | .no => False
def SndJ (K : PySem.W.Frag) (ca : Nat → Addr) (W : WX) (t : TI) (f : VEnv → Rs (List PyData)) : Prop := ∀ B F env σ H R, StOk K B F env σ H → PostJ K ca W σ F H R (f env) → t σ H R
structure VJ (ca : Nat → Addr) (W : WX) (X : Cx) (tg iter : Expr) (f : VEnv → Rs (List PyData)) : Prop where
  ex : ∃ t, PI X tg iter t ∧ SndJ X.K ca W t f
theorem JWalk.up {J : It} {G G' : Hp} {vs : List V} (h : JWalk J G vs) (s : Same G G') : JWalk J G' vs :=
  ⟨fun i H q => h.go i H (s.trans q), fun i H x H' q => h.yld i H x H' (s.trans q), fun H q => h.stop H (s.trans q)⟩
theorem VI.vj {tg iter : Expr} {f : VEnv → Rs (List PyData)} (h : VI ca W X tg iter f) : VJ ca W X tg iter f := by
  obtain ⟨t, p, s⟩ := h
  refine ⟨t, p, fun B F env σ H R st q => s B F env σ H R st ?_⟩
  cases e : f env with
  | ok xs => rw [e] at q; exact fun J F' H' vs g d j => q J F' H' vs g d (j.up g.cfg.sub)
  | ex c fs => rw [e] at q; exact q
  | no => rw [e] at q; exact q
def gL : RV → Rs (List PyData)
  | .d (.list xs) => .ok xs
  | .ol xs => .ok xs
  | .sc ns => .ok (ns.map .int)
  | _ => .no
def gT : RV → Rs (List PyData)
  | .d (.tuple xs) => .ok xs
  | _ => .no
def gLb : RV → Rs (List PyData)
  | .bl xs => .ok xs
  | r => gL r
def iL (fe : VEnv → Rs RV) : VEnv → Rs (List PyData) := fun env => (fe env).bind gL
def iT (fe : VEnv → Rs RV) : VEnv → Rs (List PyData) := fun env => (fe env).bind gT
def iLb (fe : VEnv → Rs RV) : VEnv → Rs (List PyData) := fun env => (fe env).bind gLb
theorem vi_list {tg : Expr} (h : VE ca W X e fa) : VI ca W X tg e (iL fa) := by
  obtain ⟨t, p, s⟩ := h
  refine ⟨_, pi_list p, fun B F env σ H R st q => ?_⟩
  show t σ H fun x H1 => ∃ a, x = .ref a ∧ (∃ xs, SqL X.K H1 a xs) ∧ R (Itl X.K a) H1
  refine seqE (PostI X.K ca W σ F H R) s st q (fun _ _ h => h) (fun h => h) fun r F1 H1 v p1 g1 q1 => ?_
  cases r with
  | d x =>
    cases x with
    | list xs =>
      cases q1 with
      | lst h1 h2 => exact ⟨_, rfl, ⟨_, SqL.of (g1.cfg.sub _ _ h1)⟩, p1 _ F1 H1 _ g1 h2 (jw_list (SqL.of h1))⟩
    | _ => exact p1.elim
  | ol xs =>
    obtain ⟨p, vs, rfl, n0, f, hp, q2⟩ := q1
    have g2 := g1.freeze n0 f hp
    have s2 : Same F1 (upd F1 p (.lst vs)) := fun b u k => by rw [upd_ne (ne_of_none k f)]; exact k
    exact ⟨p, rfl, ⟨_, SqL.of hp⟩, p1 _ _ H1 vs g2 (DqA.mono s2 _ _ q2) (jw_list (SqL.of upd_same))⟩
  | sc ns =>
    obtain ⟨a, rfl, q2⟩ := q1
    exact ⟨a, rfl, ⟨_, g1.cfg.sub.seq q2⟩, p1 _ F1 H1 _ g1 (DqA.of_ints ns) (jw_list q2)⟩
  | _ => exact p1.elim
theorem vi_tup {tg : Expr} (h : VE ca W X e fa) : VI ca W X tg e (iT fa) := by
  obtain ⟨t, p, s⟩ := h
  refine ⟨_, pi_tup p, fun B F env σ H R st q => ?_⟩
  show t σ H fun x H1 => ∃ a, x = .ref a ∧ (∃ xs, SqT X.K H1 a xs) ∧ R (Itt X.K a) H1
  refine seqE (PostI X.K ca W σ F H R) s st q (fun _ _ h => h) (fun h => h) fun r F1 H1 v p1 g1 q1 => ?_
  cases r with
  | d x =>
    cases x with
    | tuple xs =>
      cases q1 with
      | tup h1 h2 => exact ⟨_, rfl, ⟨_, same_seqT g1.cfg.sub h1⟩, p1 _ F1 H1 _ g1 h2 (jw_tup h1)⟩
    | _ => exact p1.elim
  | _ => exact p1.elim
theorem vj_list {tg : Expr} (h : VE ca W X e fa) : VJ ca W X tg e (iLb fa) := by
  obtain ⟨t, p, s⟩ := h
  refine ⟨_, pi_list p, fun B F env σ H R st q => ?_⟩
  show t σ H fun x H1 => ∃ a, x = .ref a ∧ (∃ xs, SqL X.K H1 a xs) ∧ R (Itl X.K a) H1
  refine seqE (PostJ X.K ca W σ F H R) s st q (fun _ _ h => h) (fun h => h) fun r F1 H1 v p1 g1 q1 => ?_
  cases r with
  | d x =>
    cases x with
    | list xs =>
      cases q1 with
      | lst h1 h2 => exact ⟨_, rfl, ⟨_, SqL.of (g1.cfg.sub _ _ h1)⟩, p1 _ F1 H1 _ g1 h2 (jw_list (SqL.of (g1.cfg.sub _ _ h1)))⟩
    | _ => exact p1.elim
  | ol xs =>
    obtain ⟨p, vs, rfl, n0, f, hp, q2⟩ := q1
    exact ⟨p, rfl, ⟨_, SqL.of hp⟩, p1 _ _ H1 vs g1 q2 (jw_list (SqL.of hp))⟩
  | bl xs =>
    obtain ⟨p, vs, rfl, hp, q2⟩ := q1
    exact ⟨p, rfl, ⟨_, SqL.of hp⟩, p1 _ _ H1 vs g1 q2 (jw_list (SqL.of hp))⟩
  | sc ns =>
    obtain ⟨a, rfl, q2⟩ := q1
    exact ⟨a, rfl, ⟨_, g1.cfg.sub.seq q2⟩, p1 _ F1 H1 _ g1 (DqA.of_ints ns) (jw_list (g1.cfg.sub.seq q2))⟩
  | _ => exact p1.elim
theorem vj_tup {tg : Expr} (h : VE ca W X e fa) : VJ ca W X tg e (iT fa) := (vi_tup h).vj
theorem DqA.rng {K : PySem.W.Frag} {F : Hp} (lo : Int) (n : Nat) : DqA K F ((List.range n).map fun i : Nat => V.int (lo + (i : Int))) (rngL lo n) := by
  have := DqA.of_ints (K := K) (F := F) ((List.range n).map fun i : Nat => lo + (i : Int))
  rw [List.map_map, List.map_map] at this
  exact this
def gR1 : List RV → Rs (List PyData)
  | [.d (.int j)] => if j.natAbs ≤ 1000000 then .ok (rngL 0 j.toNat) else .no
  | _ => .no
def gR2 : List RV → Rs (List PyData)
  | [.d (.int i), .d (.int j)] => if i.natAbs ≤ 1000000 ∧ j.natAbs ≤ 1000000 then .ok (rngL i (j - i).toNat) else .no
  | _ => .no
def iR (g : List RV → Rs (List PyData)) (fe : VEnv → Rs (List RV)) : VEnv → Rs (List PyData) := fun env => (fe env).bind g
theorem vi_range1 {tg : Expr} {p pos : Pos} {f : VEnv → Rs (List RV)} (hg : Gl X "range") (hm : X.mg "range" = none) (ha : VA ca W X [a] f) (hs : starEach [a] X.env = [(false, eval a X.env)] := by rfl) : VI ca W X tg (.Call (.Name "range" p) [a] [] pos) (iR gR1 f) := by
  obtain ⟨t, pa, sa⟩ := ha
  refine ⟨_, pi_range1 hg hm pa hs, fun B F env σ H R st q => ?_⟩
  show t σ H fun vs H1 => ∃ j : Int, vs = [.int j] ∧ -(2 ^ 62) ≤ j ∧ j < 2 ^ 62 ∧ R (Itr 0 j.toNat) H1
  refine seqA (PostI X.K ca W σ F H R) sa st q (fun _ _ h => h) (fun h => h) fun rs F1 H1 vs p1 g1 q1 => ?_
  unfold gR1 at p1
  split at p1
  · rename_i j
    split at p1
    · rename_i hj
      cases q1 with
      | cons h1 h2 =>
        cases h2
        cases h1
        exact ⟨j, rfl, by omega, by omega, p1 _ F1 H1 _ g1 (DqA.rng 0 j.toNat) (jw_rng 0 j.toNat)⟩
    · exact p1.elim
  · exact p1.elim
theorem vi_range2 {tg : Expr} {p pos : Pos} {f : VEnv → Rs (List RV)} (hg : Gl X "range") (hm : X.mg "range" = none) (ha : VA ca W X [a, b] f) (hs : starEach [a, b] X.env = [(false, eval a X.env), (false, eval b X.env)] := by rfl) (hs2 : starEach [b] X.env = [(false, eval b X.env)] := by rfl) : VI ca W X tg (.Call (.Name "range" p) [a, b] [] pos) (iR gR2 f) := by
  obtain ⟨t, pa, sa⟩ := ha
  refine ⟨_, pi_range2 hg hm pa hs hs2, fun B F env σ H R st q => ?_⟩
  show t σ H fun vs H1 => ∃ i j : Int, vs = [.int i, .int j] ∧ (-(2 ^ 62) ≤ i ∧ i < 2 ^ 62 ∧ -(2 ^ 62) ≤ j ∧ j < 2 ^ 62) ∧ R (Itr i (j - i).toNat) H1
  refine seqA (PostI X.K ca W σ F H R) sa st q (fun _ _ h => h) (fun h => h) fun rs F1 H1 vs p1 g1 q1 => ?_
  unfold gR2 at p1
  split at p1
  · rename_i i j
    split at p1
    · rename_i hj
      cases q1 with
      | cons h1 h2 =>
        cases h2 with
        | cons h3 h4 =>
          cases h4
          cases h1
          cases h3
          exact ⟨i, j, rfl, by omega, p1 _ F1 H1 _ g1 (DqA.rng i _) (jw_rng i _)⟩
    · exact p1.elim
  · exact p1.elim

/-! ### targets -/
inductive Tg where
  | nm (i : Nat) | tp (is : List Nat)
def tgEs : List Nat → List PyData → VEnv → Option VEnv
  | [], [], env => some env
  | i :: is, x :: xs, env => if i < env.length then tgEs is xs (env.set i (some (.d x))) else none
  | _, _, _ => none
def tgE : Tg → PyData → VEnv → Option VEnv
  | .nm i, x, env => if i < env.length then some (env.set i (some (.d x))) else none
  | .tp is, .tuple xs, env => tgEs is xs env
  | .tp _, _, _ => none
def gNms : List Nat → TGs
  | [] => gNil
  | i :: is => gCons (gName i) (gNms is)
def tgT (K : PySem.W.Frag) : Tg → TG
  | .nm i => gName i
  | .tp is => gTup K is.length (gNms is)
def setAll : List Nat → List V → L2.St → L2.St
  | i :: is, v :: vs, σ => setAll is vs (σ.set i (some v))
  | _, _, σ => σ
theorem StOk.putD {K : PySem.W.Frag} {B : Base} {F H : Hp} {env : VEnv} {σ : L2.St} (st : StOk K B F env σ H) {i : Nat} (hi : i < env.length) {v : V} {x : PyData} (q : Dq K F v x) : StOk K B F (env.set i (some (.d x))) (σ.set i (some v)) H :=
  st.put hi (r := .d x) q rfl fun o => by cases o
theorem snd_tgs {K : PySem.W.Frag} {B : Base} {F H : Hp} : ∀ {is : List Nat} {xs : List PyData} {vs : List V} {env env' : VEnv} {σ : L2.St} {Q : L2.St → Hp → Prop}, StOk K B F env σ H → DqA K F vs xs → tgEs is xs env = some env' → (StOk K B F env' (setAll is vs σ) H → Q (setAll is vs σ) H) → gNms is vs σ H Q
  | [], [], _, env, env', σ, Q, st, q, e, h => by cases q; cases e; exact ⟨rfl, h st⟩
  | [], _ :: _, _, env, env', σ, Q, st, q, e, h => by cases e
  | i :: is, [], _, env, env', σ, Q, st, q, e, h => by cases e
  | i :: is, x :: xs, _, env, env', σ, Q, st, q, e, h => by
    cases q with
    | cons h1 h2 =>
      rename_i v vs
      unfold tgEs at e
      split at e
      · rename_i hi
        exact ⟨v, vs, rfl, snd_tgs (st.putD hi h1) h2 e h⟩
      · cases e
def tgIx : Tg → List Nat
  | .nm i => [i]
  | .tp is => is
def tgSt (tg : Tg) (v : V) (vs : List V) (σ : L2.St) : L2.St := match tg with
  | .nm i => σ.set i (some v)
  | .tp is => setAll is vs σ
theorem snd_tg {K : PySem.W.Frag} {B : Base} {F H : Hp} {tg : Tg} {x : PyData} {v : V} {env env' : VEnv} {σ : L2.St} {Q : L2.St → Hp → Prop} (st : StOk K B F env σ H) (q : Dq K F v x) (e : tgE tg x env = some env') (h : ∀ vs, StOk K B F env' (tgSt tg v vs σ) H → Q (tgSt tg v vs σ) H) : tgT K tg v σ H Q := by
  cases tg with
  | nm i =>
    by_cases hi : i < env.length
    · have e' : some (env.set i (some (.d x))) = some env' := by simpa [tgE, hi] using e
      cases e'
      exact h [] (st.putD hi q)
    · simp [tgE, hi] at e
  | tp is =>
    cases x with
    | tuple xs =>
      cases q with
      | tup h1 h2 =>
        rename_i a vs
        refine ⟨a, vs, rfl, same_seqT st.cfg.sub h1, ?_, snd_tgs st h2 e (h vs)⟩
        rw [h2.length]
        have : ∀ (is : List Nat) (xs : List PyData) (env : VEnv), tgEs is xs env = some env' → xs.length = is.length := by
          intro is
          induction is with
          | nil => intro xs env e; cases xs with
            | nil => rfl
            | cons _ _ => cases e
          | cons i is ih => intro xs env e; cases xs with
            | nil => cases e
            | cons x xs =>
              unfold tgEs at e
              split at e
              · simp [ih xs _ e]
              · cases e
        exact this is xs env e
    | _ => cases e
structure VG (X : Cx) (target : Expr) (tg : Tg) : Prop where
  ex : PG X target (tgT X.K tg)
structure VGs (X : Cx) (es : List Expr) (is : List Nat) : Prop where
  ex : PGs X es (gNms is)
theorem vg_name {i : Nat} {x : Str} (hN : X.N.Nodup) (hi : X.N[i]? = some x) (hx : Loc X.env.scope x) (hf : X.fn x = true ∨ X.env.scope.names.lookup x = some .local := by first | exact .inl rfl | exact .inr rfl | assumption) : VG X (.Name x pos) (.nm i) := ⟨pg_name hN hi hx hf⟩
theorem vgs_nil : VGs X [] [] := ⟨pgs_nil⟩
theorem vgs_cons {i : Nat} {x : Str} {is : List Nat} (hN : X.N.Nodup) (hi : X.N[i]? = some x) (hx : Loc X.env.scope x) (h2 : VGs X es is) (hf : X.fn x = true ∨ X.env.scope.names.lookup x = some .local := by first | exact .inl rfl | exact .inr rfl | assumption)
    (hs : (assignEach (.Name x pos :: es) X.env).map (·.2) = assign (.Name x pos) X.env :: (assignEach es X.env).map (·.2) := by rfl) : VGs X (.Name x pos :: es) (i :: is) := ⟨pgs_cons (pg_name hN hi hx hf) h2.ex hs⟩
theorem vg_tup {k : Nat} {is : List Nat} (hc : X.calm = true) (h : VGs X es is) (hn : (assignEach es X.env).length = is.length := by rfl) (hst : (assignEach es X.env).findIdx? (·.1) = none := by rfl) : VG X (.Tuple es k pos) (.tp is) := ⟨pg_tup hc h.ex hn hst⟩
/-- a, b = e -/
def sUnp (tg : Tg) (fe : VEnv → Rs RV) : VEnv → Out := fun env => (fe env).out env fun r => match r.toD with
  | some x => (match tgE tg x env with | some env' => .nx env' | none => .no)
  | none => .no
theorem vs_unp {tg : Expr} {g : Tg} (he : VE ca W X e fa) (hg : VG X tg g) (hs : swapsWithSole [tg] e pos.line X.env = pure false := by rfl) (hw : swappedStores [tg] e X.env = pure none := by rfl)
    (h1 : (assignEach [tg] X.env).map (·.2) = [assign tg X.env] := by rfl) : VS ca W X (.Assign [tg] e pos) (sUnp g fa) := by
  obtain ⟨t, pe, se⟩ := he
  refine ⟨_, ps_asg pe hg.ex hs hw h1, fun B F env σ H D st p => ?_⟩
  show t σ H fun x H1 => tgT X.K g x σ H1 D.nx
  refine outE se st p fun r F1 H1 v p1 gg q => ?_
  cases e1 : r.toD with
  | none => rw [e1] at p1; exact p1.elim
  | some x =>
    rw [e1] at p1
    obtain ⟨F2, g2, s2, q2⟩ := frz gg (Fz.of q e1)
    simp only at p1
    cases e2 : tgE g x env with
    | none => rw [e2] at p1; exact p1.elim
    | some env' => rw [e2] at p1; exact snd_tg (st.grow g2) q2 e2 fun vs st' => p1 F2 _ H1 s2 st'

/-! ### for -/
def loopF (tg : Tg) (f : VEnv → Out) : List PyData → VEnv → Out
  | [], env => .nx env
  | x :: xs, env => match tgE tg x env with
    | none => .no
    | some e1 => match f e1 with
      | .nx e => loopF tg f xs e
      | .ct e => loopF tg f xs e
      | .bk e => .nx e
      | o => o
def sFor (tg : Tg) (src : VEnv → Rs (List PyData)) (f : VEnv → Out) : VEnv → Out := fun env => (src env).out env fun xs => loopF tg f xs env
theorem drop_cons {α : Type} {xs : List α} {i : Nat} {x : α} (h : xs[i]? = some x) : xs.drop i = x :: xs.drop (i + 1) := by
  obtain ⟨h1, h2⟩ := List.getElem?_eq_some_iff.mp h
  rw [← h2]
  exact List.drop_eq_getElem_cons h1
theorem vs_for {tg iter : Expr} {body : List Stmt} {src : VEnv → Rs (List PyData)} {g : Tg} (hp : PassesOwn (model X.prog X.w) X.A X.env X.xe) (hc : X.calm = true) (hi : VI ca W X tg iter src) (hg : VG X tg g) (hb : VSs ca W X body f)
    (hs : ∀ x, foldedSetIterable iter X.env x = pure x := by intro _; rfl) : VS ca W X (.For tg iter body [] pos) (sFor g src f) := by
  obtain ⟨t, pi, si⟩ := hi
  obtain ⟨tb, pb, sb⟩ := hb
  refine ⟨_, ps_for hp hc pi hg.ex pb hs, fun B F env σ H D st p => ?_⟩
  refine si B F env σ H _ st ?_
  unfold sFor at p
  cases e : src env with
  | no => rw [e] at p; exact p
  | ex c fs => rw [e] at p; exact exOut st p
  | ok xs =>
    rw [e] at p
    intro J F1 H1 vs g1 d1 jw
    refine ⟨fun i m σ H => m = vs.length - i ∧ i ≤ vs.length ∧ ∃ F' env', Same F1 F' ∧ StOk X.K B F' env' σ H ∧ PostS X.K ca W B F' D (loopF g f (xs.drop i) env'), ⟨_, rfl, Nat.zero_le _, F1, env, Same.refl _, st.grow g1, PostS.mono g1.ff p⟩, ?_⟩
    rintro i m σ2 H2 ⟨rfl, hi, F2, env2, s2, st2, p2⟩
    have s3 : Same F1 H2 := s2.trans st2.cfg.sub
    by_cases hlt : i < vs.length
    · obtain ⟨x, hx, qx⟩ := DqA.get' d1 (List.getElem?_eq_getElem hlt)
      rw [drop_cons hx] at p2
      unfold loopF at p2
      refine .inr ⟨jw.go i H2 s3 hlt, fun σ' H' => ∃ F' env', Same F1 F' ∧ StOk X.K B F' env' σ' H' ∧ PostS X.K ca W B F' D (loopF g f (xs.drop (i + 1)) env'), fun σ' H' z => ⟨vs.length - (i + 1), by omega, rfl, hlt, z⟩, fun y H' hy => ?_⟩
      obtain ⟨rfl, e2⟩ := jw.yld i H2 y H' s3 hy hlt
      rw [List.getElem?_eq_getElem hlt] at e2
      cases e2
      cases e3 : tgE g x env2 with
      | none => rw [e3] at p2; exact p2.elim
      | some env3 =>
        rw [e3] at p2
        simp only at p2
        refine snd_tg st2 (qx.mono s2) e3 fun ws st3 => ?_
        refine sb B F2 env3 _ _ _ st3 ?_
        cases e4 : f env3 with
        | nx env' => rw [e4] at p2; exact fun F' σ' H' s st' => ⟨F', env', s2.trans s, st', PostS.mono s p2⟩
        | ct env' => rw [e4] at p2; exact fun F' σ' H' s st' => ⟨F', env', s2.trans s, st', PostS.mono s p2⟩
        | bk env' => rw [e4] at p2; exact p2
        | rt r => rw [e4] at p2; exact p2
        | ex c fs env' => rw [e4] at p2; exact p2
        | no => rw [e4] at p2; exact p2
    · have e5 : i = vs.length := by omega
      subst e5
      rw [List.drop_eq_nil_of_le (by rw [d1.length]; exact Nat.le_refl _)] at p2
      exact .inl ⟨jw.stop H2 s3, p2 F2 σ2 H2 (Same.refl _) st2⟩
end
end VL

namespace VL
open PySem PySem.Spec PyProof.Rows L2

/-- inside a comprehension nothing may be raised -/
abbrev W0 : WX := fun _ _ _ _ => False
section
variable {ca : Nat → Addr} {W : WX} {X : Cx} {a b e : Expr} {es : List Expr} {fa fb : VEnv → Rs RV} {pos : Pos} {st : Stmt} {rest : List Stmt} {f g : VEnv → Out}
/-! ## list comprehensions -/
def wipeE (env : VEnv) : List Nat → VEnv
  | [] => env
  | v :: vs => (wipeE env vs).set v none
theorem wipe_ok {K : PySem.W.Frag} {B : Base} {F H : Hp} {env : VEnv} {σ : L2.St} (st : StOk K B F env σ H) : ∀ vs : List Nat, StOk K B F (wipeE env vs) (wipe σ vs) H
  | [] => st
  | v :: vs => (wipe_ok st vs).drop v
theorem wipe_get {σ : L2.St} {i : Nat} {vs : List Nat} (h : i ∈ vs) : (wipe σ vs)[i]? = some none ∨ (wipe σ vs)[i]? = none := by
  cases e : (wipe σ vs)[i]? with
  | none => exact .inr rfl
  | some o =>
    cases o with
    | none => exact .inl rfl
    | some v => exact absurd h (wipe_some e).2
theorem wipe_all {σ σ' : L2.St} {vs : List Nat} (hl : σ'.length = σ.length) (h : ∀ i, i ∉ vs → σ'[i]? = σ[i]?) : wipe σ' vs = wipe σ vs := by
  apply List.ext_getElem?
  intro i
  by_cases hi : i ∈ vs
  · have l1 := wipe_length σ' vs
    have l2 := wipe_length σ vs
    rcases wipe_get (σ := σ') hi with h1 | h1 <;> rcases wipe_get (σ := σ) hi with h2 | h2
    · rw [h1, h2]
    · have a1 := (List.getElem?_eq_some_iff.mp h1).1
      have a2 := List.getElem?_eq_none_iff.mp h2
      omega
    · have a1 := (List.getElem?_eq_some_iff.mp h2).1
      have a2 := List.getElem?_eq_none_iff.mp h1
      omega
    · rw [h1, h2]
  · rw [wipe_out hi, wipe_out hi]
    exact h i hi
theorem wipe_wipe {σ : L2.St} (vs : List Nat) : wipe (wipe σ vs) vs = wipe σ vs := wipe_all (wipe_length σ vs) fun i hi => wipe_out hi
theorem setAll_len : ∀ (is : List Nat) (vs : List V) (σ : L2.St), (setAll is vs σ).length = σ.length
  | [], _, σ => by unfold setAll; rfl
  | i :: is, [], σ => by unfold setAll; rfl
  | i :: is, v :: vs, σ => by unfold setAll; rw [setAll_len is vs]; simp
theorem setAll_get : ∀ (is : List Nat) (vs : List V) (σ : L2.St) (j : Nat), j ∉ is → (setAll is vs σ)[j]? = σ[j]?
  | [], _, σ, j, _ => by unfold setAll; rfl
  | i :: is, [], σ, j, _ => by unfold setAll; rfl
  | i :: is, v :: vs, σ, j, h => by
    unfold setAll
    rw [setAll_get is vs _ j (fun z => h (List.mem_cons_of_mem _ z)), List.getElem?_set_ne (fun z => h (by subst z; exact List.mem_cons_self))]
theorem tgSt_wipe {tg : Tg} {v : V} {vs : List V} {σ : L2.St} {own : List Nat} (h : ∀ i ∈ tgIx tg, i ∈ own) : wipe (tgSt tg v vs (wipe σ own)) own = wipe σ own := by
  rw [← wipe_wipe (σ := σ) own]
  cases tg with
  | nm i =>
    rw [wipe_wipe]
    refine (wipe_all (σ' := (wipe σ own).set i (some v)) (σ := wipe σ own) (by simp) fun j hj => ?_).trans (wipe_wipe own)
    have hij : i ≠ j := fun z => by subst z; exact hj (h i (by simp [tgIx]))
    rw [List.getElem?_set_ne hij]
  | tp is =>
    rw [wipe_wipe]
    refine (wipe_all (σ' := setAll is vs (wipe σ own)) (σ := wipe σ own) (setAll_len is vs _) fun j hj => ?_).trans (wipe_wipe own)
    exact setAll_get is vs _ j fun z => hj (h j z)
/-- the ifs -/
structure VTs (ca : Nat → Addr) (W : WX) (X : Cx) (ifs : List Expr) (f : VEnv → Rs Bool) : Prop where
  ex : ∃ t, PTs X ifs t ∧ SndT X.K ca W t f
def bYes : VEnv → Rs Bool := fun _ => .ok true
theorem vts_nil : VTs ca W X [] bYes := ⟨_, pts_nil, fun _ _ _ _ _ _ st p => p _ _ (Grow.refl st.cfg)⟩
theorem vts_one {c : Expr} {t : VEnv → Rs Bool} (h : VT ca W X c t) : VTs ca W X [c] t := by
  obtain ⟨t, pe, se⟩ := h
  exact ⟨_, pts_one pe, se⟩
def lcF (tg : Tg) (t : VEnv → Rs Bool) (fe : VEnv → Rs RV) (env : VEnv) : List PyData → Rs (List PyData)
  | [] => .ok []
  | x :: xs => match tgE tg x env with
    | none => .no
    | some e1 => match t e1 with
      | .ok true => (match fe e1 with
        | .ok r => (match r.toD with
          | some d => (lcF tg t fe env xs).bind fun ds => .ok (d :: ds)
          | none => .no)
        | _ => .no)
      | .ok false => lcF tg t fe env xs
      | _ => .no
theorem lcF_ex {tg : Tg} {t : VEnv → Rs Bool} {fe : VEnv → Rs RV} {env : VEnv} {c : Nat} {fs : List (Str × PyData)} : ∀ xs : List PyData, lcF tg t fe env xs ≠ .ex c fs
  | [], h => by cases h
  | x :: xs, h => by
    have ih := lcF_ex (tg := tg) (t := t) (fe := fe) (env := env) (c := c) (fs := fs) xs
    unfold lcF at h
    split at h
    · cases h
    · split at h
      · split at h
        · split at h
          · cases e : lcF tg t fe env xs with
            | ok ds => rw [e] at h; cases h
            | ex c' fs' => rw [e] at h; simp at h; exact ih (by rw [e, h.1, h.2])
            | no => rw [e] at h; cases h
          · cases h
        · cases h
      · exact ih h
      · cases h
theorem lcF_len {tg : Tg} {t : VEnv → Rs Bool} {fe : VEnv → Rs RV} {env : VEnv} : ∀ (xs ds : List PyData), lcF tg t fe env xs = .ok ds → ds.length ≤ xs.length
  | [], ds, h => by cases h; simp
  | x :: xs, ds, h => by
    unfold lcF at h
    split at h
    · cases h
    · split at h
      · split at h
        · split at h
          · cases e : lcF tg t fe env xs with
            | ok es =>
              rw [e] at h
              have := lcF_len xs es e
              simp at h
              subst h
              simp
              exact this
            | ex c' fs' => rw [e] at h; cases h
            | no => rw [e] at h; cases h
          · cases h
        · cases h
      · have := lcF_len xs ds h
        simp; omega
      · cases h
def cLc (src : VEnv → Rs (List PyData)) (own : List Nat) (tg : Tg) (t : VEnv → Rs Bool) (fe : VEnv → Rs RV) : VEnv → Rs RV := fun env => (src env).bind fun xs => if xs.length ≤ 1000000 then (lcF tg t fe (wipeE env own) xs).bind fun ds => .ok (.ol ds) else .no
theorem million {n : Nat} (h : n ≤ 1000000) : n < sizeLine := Nat.lt_of_le_of_lt h (by decide)
theorem snd_lc {K : PySem.W.Frag} {wi : TI} {tt : TT} {te : TE} {src : VEnv → Rs (List PyData)} {own : List Nat} {tg : Tg} {t : VEnv → Rs Bool} {fe : VEnv → Rs RV} (ho : ∀ i ∈ tgIx tg, i ∈ own) (si : SndJ K ca W wi src) (s1 : SndT K ca W0 tt t) (s2 : SndE K ca W0 te fe) :
    SndE K ca W (tLc wi (tgT K tg) tt te own) (cLc src own tg t fe) := by
  intro B F env σ H Q st p
  refine si B F env σ H _ st ?_
  unfold cLc at p
  cases e : src env with
  | no => rw [e] at p; exact p
  | ex c fs => rw [e] at p; exact p
  | ok xs =>
    rw [e] at p
    simp only [Rs.bind_ok] at p
    split at p
    · rename_i hz
      cases e2 : lcF tg t fe (wipeE env own) xs with
      | no => rw [e2] at p; exact p.elim
      | ex c fs => exact absurd e2 (lcF_ex xs)
      | ok res =>
        rw [e2] at p
        intro J F1 H1 vs g1 d1 jw D nD
        have stw : StOk K B F1 (wipeE env own) (wipe σ own) H1 := wipe_ok (st.grow g1) own
        have fD : F1 D = none := same_none g1.cfg.sub nD
        refine ⟨fun i m H => m = vs.length - i ∧ i ≤ vs.length ∧ ∃ F' acc ds rs, Grow F1 H1 F' H ∧ F' D = none ∧ H D = some (.lst acc) ∧ DqA K F' acc ds ∧ lcF tg t fe (wipeE env own) (xs.drop i) = .ok rs ∧ ds ++ rs = res ∧ ds.length ≤ i,
          ⟨_, rfl, Nat.zero_le _, F1, [], [], res, Grow.newO g1.cfg _ nD (fun _ z => by cases z), fD, upd_same, .nil, e2, rfl, Nat.le_refl _⟩, ?_⟩
        rintro i m H2 ⟨rfl, hi, F2, acc, ds, rs, g2, f2, hD, q2, er, es, dl⟩
        by_cases hlt : i < vs.length
        · obtain ⟨x, hx, qx⟩ := DqA.get' d1 (List.getElem?_eq_getElem hlt)
          rw [drop_cons hx] at er
          unfold lcF at er
          refine .inr ⟨jw.go i H2 g2.hh hlt, fun H => i + 1 ≤ vs.length ∧ ∃ F' acc ds rs, Grow F1 H1 F' H ∧ F' D = none ∧ H D = some (.lst acc) ∧ DqA K F' acc ds ∧ lcF tg t fe (wipeE env own) (xs.drop (i + 1)) = .ok rs ∧ ds ++ rs = res ∧ ds.length ≤ i + 1,
            fun H' z => ⟨vs.length - (i + 1), by omega, rfl, z.1, z.2⟩, fun y H' hy => ?_⟩
          obtain ⟨rfl, e5⟩ := jw.yld i H2 y H' g2.hh hy hlt
          rw [List.getElem?_eq_getElem hlt] at e5
          cases e5
          cases e3 : tgE tg x (wipeE env own) with
          | none => rw [e3] at er; cases er
          | some env3 =>
            rw [e3] at er
            simp only at er
            refine snd_tg (stw.grow g2) (qx.mono g2.ff) e3 fun ws st3 => ⟨tgSt_wipe ho, ?_⟩
            refine s1 B F2 env3 _ _ _ st3 ?_
            cases e4 : t env3 with
            | no => rw [e4] at er; cases er
            | ex c fs => rw [e4] at er; cases er
            | ok b =>
              rw [e4] at er
              intro F4 H4 g4
              have f4 : F4 D = none := g4.stillFree f2 hD
              cases b with
              | false =>
                rw [if_neg Bool.false_ne_true]
                exact ⟨hlt, F4, acc, ds, rs, g2.trans g4, f4, g4.hh _ _ hD, DqA.mono g4.ff _ _ q2, er, es, by omega⟩
              | true =>
                rw [if_pos rfl]
                simp only at er
                refine s2 B F4 env3 _ H4 _ (st3.grow g4) ?_
                cases e6 : fe env3 with
                | no => rw [e6] at er; cases er
                | ex c fs => rw [e6] at er; cases er
                | ok r =>
                  rw [e6] at er
                  simp only at er
                  cases e7 : r.toD with
                  | none => rw [e7] at er; cases er
                  | some d =>
                    rw [e7] at er
                    simp only at er
                    cases e8 : lcF tg t fe (wipeE env own) (xs.drop (i + 1)) with
                    | no => rw [e8] at er; cases er
                    | ex c fs => rw [e8] at er; cases er
                    | ok rs' =>
                      rw [e8] at er
                      simp at er
                      intro F6 H6 v6 g6 q6
                      obtain ⟨F7, g7, s7, q7⟩ := frz g6 (Fz.of q6 e7)
                      have g8 : Grow F1 H1 F7 H6 := (g2.trans g4).trans g7
                      have h6 : H6 D = some (.lst acc) := g7.hh _ _ (g4.hh _ _ hD)
                      have f7 : F7 D = none := g7.stillFree f4 (g4.hh _ _ hD)
                      have qa : DqA K F7 acc ds := DqA.mono g7.ff _ _ (DqA.mono g4.ff _ _ q2)
                      have al : acc.length = ds.length := qa.length
                      refine ⟨acc, h6, million (by have := d1.length; omega), hlt, F7, acc ++ [v6], ds ++ [d], rs', g8.write nD f7 h6 (fun _ z => by cases z), f7, upd_same, qa.append (.cons q7 .nil), rfl, ?_, by simp; omega⟩
                      rw [← es, ← er]
                      simp
        · have e5 : i = vs.length := by omega
          subst e5
          rw [List.drop_eq_nil_of_le (by rw [d1.length]; exact Nat.le_refl _)] at er
          cases er
          rw [List.append_nil] at es
          subst es
          exact .inl ⟨jw.stop H2 g2.hh, p F2 H2 (.ref D) (g1.trans g2) ⟨D, acc, rfl, same_none g1.hh nD, f2, hD, q2⟩⟩
    · exact p.elim
/-- the one reading of a semantic function -/
def tU (K : PySem.W.Frag) (ca : Nat → Addr) (W : WX) (f : VEnv → Rs RV) : TE := fun σ H Q => ∃ B F env, StOk K B F env σ H ∧ PostE K ca W σ F H Q (f env)
def tUT (K : PySem.W.Frag) (ca : Nat → Addr) (W : WX) (f : VEnv → Rs Bool) : TT := fun σ H Q => ∃ B F env, StOk K B F env σ H ∧ PostB K ca W σ F H Q (f env)
theorem VE.pe {f : VEnv → Rs RV} (h : VE ca W X e f) : PE X e (tU X.K ca W f) := by
  obtain ⟨t, p, s⟩ := h
  exact ⟨fun pins s0 σ H Q I ⟨B, F, env, st, q⟩ => p.run pins s0 σ H Q I (s B F env σ H Q st q)⟩
theorem VTs.pt {ifs : List Expr} {f : VEnv → Rs Bool} (h : VTs ca W X ifs f) : PTs X ifs (tUT X.K ca W f) := by
  obtain ⟨t, p, s⟩ := h
  exact ⟨fun pins s0 σ H Q I ⟨B, F, env, st, q⟩ => p.run pins s0 σ H Q I (s B F env σ H Q st q)⟩
theorem ve_lc {elt tg iter : Expr} {ifs : List Expr} {scope : Scope} {own : List (Str × Nat)} {src : VEnv → Rs (List PyData)} {g : Tg} {t : VEnv → Rs Bool} {fe : VEnv → Rs RV} (hc : X.calm = true) (hN : X.N.Nodup) (hi : VJ ca W X tg iter src) (ok : BlkOk X.N X.env.scope scope own) (ho : ∀ i ∈ tgIx g, i ∈ own.map (·.2))
    (hg : ∀ (s : Shared) (H : Hp) (C : Addr) (cl : List (Str × Addr)) (fp : List Addr), VG (X.blk s H scope (compEnvC scope cl C X.env) fp) tg g) (ht : ∀ (s : Shared) (H : Hp) (C : Addr) (cl : List (Str × Addr)) (fp : List Addr), VTs ca W0 (X.blk s H scope (compEnvC scope cl C X.env) fp) ifs t)
    (he : ∀ (s : Shared) (H : Hp) (C : Addr) (cl : List (Str × Addr)) (fp : List Addr), VE ca W0 (X.blk s H scope (compEnvC scope cl C X.env) fp) elt fe) (hs : ∀ x, foldedSetIterable iter X.env x = pure x := by intro _; rfl) :
    VE ca W X (.ListComp elt [⟨tg, iter, ifs, 0⟩] scope pos) (cLc src (own.map (·.2)) g t fe) := by
  obtain ⟨wi, pi, si⟩ := hi
  exact ⟨_, pe_lc hc hN pi ok (fun s H C cl fp => (show PG _ tg (tgT X.K g) from (hg s H C cl fp).ex)) (fun s H C cl fp => (show PTs _ ifs (tUT X.K ca W0 t) from (ht s H C cl fp).pt)) (fun s H C cl fp => (show PE _ elt (tU X.K ca W0 fe) from (he s H C cl fp).pe)) hs,
    snd_lc ho si (fun B F env σ H Q st q => ⟨B, F, env, st, q⟩ : SndT X.K ca W0 (tUT X.K ca W0 t) t) (fun B F env σ H Q st q => ⟨B, F, env, st, q⟩ : SndE X.K ca W0 (tU X.K ca W0 fe) fe)⟩
/-- y = [..] on one line -/
theorem vs_setLc {i : Nat} {y : Str} {py : Pos} {elt tg iter : Expr} {ifs : List Expr} {scope : Scope} {own : List (Str × Nat)} {spos : Pos} {src : VEnv → Rs (List PyData)} {g : Tg} {t : VEnv → Rs Bool} {fe : VEnv → Rs RV} (hc : X.calm = true) (hN : X.N.Nodup) (hy : X.N[i]? = some y) (hyl : X.env.scope.names.lookup y = some .local)
    (hsw : swapsWith (.ListComp elt [⟨tg, iter, ifs, 0⟩] scope pos) (some (.Name y py)) spos.line X.env = pure true) (hi : VJ ca W X tg iter src) (ok : BlkOk X.N X.env.scope scope own) (ho : ∀ i ∈ tgIx g, i ∈ own.map (·.2))
    (hg : ∀ (s : Shared) (H : Hp) (C : Addr) (cl : List (Str × Addr)) (fp : List Addr), VG (X.blk s H scope (compEnvC scope cl C X.env) fp) tg g) (ht : ∀ (s : Shared) (H : Hp) (C : Addr) (cl : List (Str × Addr)) (fp : List Addr), VTs ca W0 (X.blk s H scope (compEnvC scope cl C X.env) fp) ifs t)
    (he : ∀ (s : Shared) (H : Hp) (C : Addr) (cl : List (Str × Addr)) (fp : List Addr), VE ca W0 (X.blk s H scope (compEnvC scope cl C X.env) fp) elt fe) (hs : ∀ x, foldedSetIterable iter X.env x = pure x := by intro _; rfl) :
    VS ca W X (.Assign [.Name y py] (.ListComp elt [⟨tg, iter, ifs, 0⟩] scope pos) spos) (sSet i (cLc src (own.map (·.2)) g t fe)) := by
  obtain ⟨wi, pi, si⟩ := hi
  refine ⟨_, ps_setLc hc hN hy hyl hsw pi ok (fun s H C cl fp => (show PG _ tg (tgT X.K g) from (hg s H C cl fp).ex)) (fun s H C cl fp => (show PTs _ ifs (tUT X.K ca W0 t) from (ht s H C cl fp).pt)) (fun s H C cl fp => (show PE _ elt (tU X.K ca W0 fe) from (he s H C cl fp).pe)) hs, fun B F env σ H D st p => ?_⟩
  have se := snd_lc (own := own.map (·.2)) (W := W) ho si (fun B F env σ H Q st q => ⟨B, F, env, st, q⟩ : SndT X.K ca W0 (tUT X.K ca W0 t) t) (fun B F env σ H Q st q => ⟨B, F, env, st, q⟩ : SndE X.K ca W0 (tU X.K ca W0 fe) fe)
  show tLc wi (tgT X.K g) (tUT X.K ca W0 t) (tU X.K ca W0 fe) (own.map (·.2)) σ H fun x H1 => D.nx (σ.set i (some x)) H1
  exact outE se st p fun r F1 H1 v p1 g q => snd_put st g q p1

/-! ## defs -/
/-- what is handed to a def -/
def RV.arg : RV → RV
  | .ol xs => .d (.list xs)
  | .od xs => .bd xs
  | .ot xs => .bt xs
  | r => r
theorem arg1 {K : PySem.W.Frag} {F0 H0 F H F1 : Hp} {v : V} {r : RV} (g1 : Grow F0 H0 F1 H) (s1 : Same F F1) (h1 : RVok K H0 F H v r) : ∃ F', Grow F0 H0 F' H ∧ Same F1 F' ∧ RVok K H F' H v r.arg := by
  cases r with
  | d x => exact ⟨F1, g1, Same.refl _, Dq.mono s1 x v h1⟩
  | ol xs =>
    obtain ⟨F2, g2, s2, q2⟩ := frz g1 ((Fz.of h1 (d := .list xs) rfl).mono s1)
    exact ⟨F2, g2, s2, q2⟩
  | bl xs => obtain ⟨p, ws, e1, hp, q⟩ := h1; exact ⟨F1, g1, Same.refl _, p, ws, e1, hp, DqA.mono s1 _ _ q⟩
  | od xs => obtain ⟨p, ws, e1, _, _, hp, q⟩ := h1; exact ⟨F1, g1, Same.refl _, p, ws, e1, hp, q.mono s1⟩
  | bd xs => obtain ⟨p, ws, e1, hp, q⟩ := h1; exact ⟨F1, g1, Same.refl _, p, ws, e1, hp, q.mono s1⟩
  | ot xs => obtain ⟨p, ws, e1, _, _, hp, q⟩ := h1; exact ⟨F1, g1, Same.refl _, p, ws, e1, hp, q.mono s1⟩
  | bt xs => obtain ⟨p, ws, e1, hp, q⟩ := h1; exact ⟨F1, g1, Same.refl _, p, ws, e1, hp, q.mono s1⟩
  | sc ns => obtain ⟨a, e1, q⟩ := h1; exact ⟨F1, g1, Same.refl _, a, e1, s1.seq q⟩
  | xo a dd c fs => obtain ⟨e1, xs, hp, q⟩ := h1; exact ⟨F1, g1, Same.refl _, e1, xs, hp, q.mono s1⟩
theorem arg_own (r : RV) : r.arg.own = false := by cases r <;> rfl
theorem arg_mono {K : PySem.W.Frag} {H F F' : Hp} (s : Same F F') {v : V} {r : RV} (ho : r.own = false) (h : RVok K H F H v r) : RVok K H F' H v r := by
  cases r with
  | d x => exact Dq.mono s x v h
  | bl xs => obtain ⟨p, ws, e1, hp, q⟩ := h; exact ⟨p, ws, e1, hp, DqA.mono s _ _ q⟩
  | bd xs => obtain ⟨p, ws, e1, hp, q⟩ := h; exact ⟨p, ws, e1, hp, q.mono s⟩
  | bt xs => obtain ⟨p, ws, e1, hp, q⟩ := h; exact ⟨p, ws, e1, hp, q.mono s⟩
  | sc ns => obtain ⟨a, e1, q⟩ := h; exact ⟨a, e1, s.seq q⟩
  | xo a dd c fs => obtain ⟨e1, xs, hp, q⟩ := h; exact ⟨e1, xs, hp, q.mono s⟩
  | _ => cases ho
theorem args_go {K : PySem.W.Frag} {F0 H0 F H : Hp} : ∀ {vs : List V} {rs : List RV} {F1 : Hp}, Grow F0 H0 F1 H → Same F F1 → Paired (fun v r => RVok K H0 F H v r) vs rs →
    ∃ F', Grow F0 H0 F' H ∧ Same F1 F' ∧ Paired (fun v r => RVok K H F' H v r) vs (rs.map RV.arg)
  | _, _, F1, g, s, .nil => ⟨F1, g, Same.refl _, .nil⟩
  | _, _, F1, g, s, .cons (b := r) h1 h2 => by
    obtain ⟨F2, g2, s2, q2⟩ := arg1 g s h1
    obtain ⟨F3, g3, s3, q3⟩ := args_go g2 (s.trans s2) h2
    exact ⟨F3, g3, s2.trans s3, .cons (arg_mono s3 (arg_own r) q2) q3⟩
/-- a def's promise -/
def PostF (K : PySem.W.Frag) (ca : Nat → Addr) (G H : Hp) (Q : VK) (E : XK) : Rs RV → Prop
  | .ok r => ∀ G' H' v, Grow G H G' H' → RVok K H G' H' v r → Q v H'
  | .ex c fs => ∀ G' H' cls dx, Grow G H G' H' → ExOk K ca G' H' cls dx c fs → E cls dx H'
  | .no => False
def spV (K : PySem.W.Frag) (ca : Nat → Addr) (n : Nat) (F : List RV → Rs RV) : Sp := fun vs H Q E => vs.length = n ∧ ∃ G rs, Cfg G H ∧ Paired (fun v r => RVok K H G H v r) vs rs ∧ PostF K ca G H Q E (F rs)
/-- the semantic function of a def out of that of its body; n: its slots -/
def Out.fin : Out → Rs RV
  | .nx _ => .ok (.d .none)
  | .rt r => .ok r
  | .ex c fs _ => .ex c fs
  | _ => .no
def fnD (n : Nat) (body : VEnv → Out) : List RV → Rs RV := fun rs => (body (rs.map some ++ List.replicate (n - rs.length) none)).fin
theorem start_ok {K : PySem.W.Frag} {G H : Hp} {vs : List V} {rs : List RV} (N : List Str) (c : Cfg G H) (h : Paired (fun v r => RVok K H G H v r) vs rs) : StOk K ⟨G, H⟩ G (rs.map some ++ List.replicate (N.length - rs.length) none) (start N vs) H := by
  have hl : vs.length = rs.length := Paired.length h
  have get : ∀ (i : Nat) (r : RV), (rs.map some ++ List.replicate (N.length - rs.length) none)[i]? = some (some r) → ∃ v, (start N vs)[i]? = some (some v) ∧ RVok K H G H v r := by
    intro i r e
    by_cases hi : i < rs.length
    · rw [List.getElem?_append_left (by simpa using hi), List.getElem?_map] at e
      have e1 : rs[i]? = some r := by
        cases z : rs[i]? with
        | none => rw [z] at e; cases e
        | some y => rw [z] at e; cases e; rfl
      have go : ∀ {vs : List V} {rs : List RV} {i : Nat}, Paired (fun v r => RVok K H G H v r) vs rs → rs[i]? = some r → ∃ v, vs[i]? = some v ∧ RVok K H G H v r := by
        intro vs rs i h
        induction h generalizing i with
        | nil => intro e; simp at e
        | cons h1 h2 ih => intro e; cases i with
          | zero => simp at e; subst e; exact ⟨_, rfl, h1⟩
          | succ i => obtain ⟨v, q1, q2⟩ := ih (i := i) (by simpa using e); exact ⟨v, by simpa using q1, q2⟩
      obtain ⟨v, q1, q2⟩ := go h e1
      refine ⟨v, ?_, q2⟩
      unfold L2.start
      rw [List.getElem?_append_left (by simpa using (by omega : i < vs.length)), List.getElem?_map, q1]
      rfl
    · rw [List.getElem?_append_right (by simpa using Nat.le_of_not_lt hi), List.getElem?_replicate] at e
      split at e
      · cases e
      · cases e
  have noOwn : ∀ (i : Nat) (r : RV), (rs.map some ++ List.replicate (N.length - rs.length) none)[i]? = some (some r) → r.own = true → False := by
    intro i r e o
    obtain ⟨v, _, q⟩ := get i r e
    cases r with
    | ol xs => obtain ⟨p, ws, _, n, _, hp, _⟩ := q; rw [n] at hp; cases hp
    | od xs => obtain ⟨p, ws, _, n, _, hp, _⟩ := q; rw [n] at hp; cases hp
    | ot xs => obtain ⟨p, ws, _, n, _, hp, _⟩ := q; rw [n] at hp; cases hp
    | _ => cases o
  refine ⟨Grow.refl c, ?_, get, fun i r p e o z => ?_, fun i j r r' p _ e _ o _ _ => (noOwn i r e o).elim⟩
  rotate_left
  · obtain ⟨v, e1, q⟩ := get i r e
    rw [z] at e1
    cases e1
    cases r with
    | bl xs => obtain ⟨a, ws, e2, hp, _⟩ := q; cases e2; exact ⟨_, hp⟩
    | bd xs => obtain ⟨a, ws, e2, hp, _⟩ := q; cases e2; exact ⟨_, hp⟩
    | bt xs => obtain ⟨a, ws, e2, hp, _⟩ := q; cases e2; exact ⟨_, hp⟩
    | _ => cases o
  unfold L2.start
  simp [hl]
theorem fn_ok {P : Program} {w : World} {K : PySem.W.Frag} {mg : Str → Option Value} {base : Heap} {x qual : Str} {sd : Stmt} {fA : Addr} {fd : FuncData} {N ps : List Str} {k : Nat} {body : VEnv → Out} (F : Fun K x qual sd fA fd) (S : FnScope N ps (defScope sd))
    (hb : ∀ (cdv : Value) (A : Around) (outer : List PySem.Env) (s : Shared) (H : Hp) (E : XK), Room k (A.deeper (envOfC qual (defScope sd) s.heap.objs.size fA cdv)) → Takes (cxOf (L2.CX P w) P w K mg base N qual (defScope sd) fA cdv A outer s H E) (fun cls dx _ H' => E cls dx H') →
      PassesOwn (model P w) (A.deeper (envOfC qual (defScope sd) s.heap.objs.size fA cdv)) (envOfC qual (defScope sd) s.heap.objs.size fA cdv) (cxOf (L2.CX P w) P w K mg base N qual (defScope sd) fA cdv A outer s H E).xe →
      VSs ca (fun cls dx _ H' => E cls dx H') (cxOf (L2.CX P w) P w K mg base N qual (defScope sd) fA cdv A outer s H E) (defBody sd) body) : FnOk P w K mg base (L2.CX P w) (k + 1) fA fd ps (spV K ca ps.length (fnD N.length body)) := by
  refine F.okX S (fun vs H Q E h => h.1) (fun cdv A outer s H vs Q E hr h => ?_)
  obtain ⟨hl, G, rs, c, pr, q⟩ := h
  obtain ⟨t, p, sn⟩ := hb cdv A outer s H E hr (takes_of rfl rfl rfl rfl) (passes_of rfl)
  refine ⟨t, p, sn ⟨G, H⟩ G _ _ H _ (start_ok N c pr) ?_⟩
  unfold fnD at q
  generalize hB : body (rs.map some ++ List.replicate (N.length - rs.length) none) = o at q ⊢
  cases o with
  | nx env => exact fun F' σ' H' s st => q F' H' .non st.gr .non
  | rt r => exact fun F' H' v g r => q F' H' v g r
  | ex c fs env => exact fun F' σ' H' cls dx s st x => q F' H' cls dx st.gr x
  | bk env => exact q.elim
  | ct env => exact q.elim
  | no => exact q.elim
/-- f(e, ..) -/
theorem ve_call {fA : Addr} {fd : FuncData} {ps : List Str} {x : Str} {p : Pos} {k n : Nat} {G : List RV → Rs RV} {f : VEnv → Rs (List RV)} (Fo : FnOk X.prog X.w X.K X.mg X.base (L2.CX X.prog X.w) k fA fd ps (spV X.K ca n G)) (hr : Room k X.A) (hg : Gl X x) (hm : X.mg x = some (.ref fA)) (hk : PySem.W.keepIn X.K (.ref fA) = true) (hb : Binds X.K fd ps []) (tk : Takes X W)
    (ha : VA ca W X (e :: es) f) (hn : (e :: es).length = n := by rfl) (hdb : (x == ("__debug__" : Str)) = false := by decide) (he : starEach (e :: es) X.env = (false, eval e X.env) :: starEach es X.env := by rfl) (hpl : (backTo pos (starEach es X.env)).any (·.1) = false := by rfl) :
    VE ca W X (.Call (.Name x p) (e :: es) [] pos) (cA (fun rs => if rs.length = n then G (rs.map RV.arg) else .no) f) := by
  obtain ⟨t, pa, sa⟩ := ha
  refine ⟨_, pe_callSD Fo hr hg hm hk hb .nil (fun σ => passAt tk σ) pa hdb he hpl, fun B F env σ H Q st q => ?_⟩
  show t σ H fun vs H1 => spV X.K ca n G (vs ++ []) H1 Q (WE W σ)
  refine seqA (PostE X.K ca W σ F H Q) sa st q (fun _ _ h => h) (fun h => h) fun rs F1 H1 vs p1 g1 q1 => ?_
  rw [List.append_nil]
  split at p1
  · rename_i hl
    obtain ⟨F2, g2, s2, q2⟩ := args_go g1 (Same.refl _) q1
    refine ⟨by rw [Paired.length q1, hl], F2, _, g2.cfg, q2, ?_⟩
    cases e1 : G (rs.map RV.arg) with
    | ok r => rw [e1] at p1; exact fun G' H' v gg rr => p1 G' H' v (g2.trans gg) (rr.older g2.hh)
    | ex c fs => rw [e1] at p1; exact fun G' H' cls dx gg x => p1 G' H' cls dx (g2.trans gg) x
    | no => rw [e1] at p1; exact p1
  · exact p1.elim
end
end VL

namespace VL
open PySem PySem.Spec PyProof.Rows L2

/-! ## reading values -/
def RV.lv : RV → Option (List PyData)
  | .d (.list xs) => some xs
  | .ol xs => some xs
  | .bl xs => some xs
  | _ => none
def RV.qv : RV → Option (List PyData)
  | .sc ns => some (ns.map .int)
  | r => r.lv
def RV.tv : RV → Option (List PyData)
  | .d (.tuple xs) => some xs
  | _ => none
def RV.data : RV → Option PyData
  | .d x => some x
  | .ol xs => some (.list xs)
  | .bl xs => some (.list xs)
  | .sc ns => some (.list (ns.map .int))
  | _ => none
section
variable {K : PySem.W.Frag} {ca : Nat → Addr} {H0 F H : Hp} {v : V} {r : RV} {xs : List PyData}
theorem lv_ok (s : Same F H) (h : RVok K H0 F H v r) (e : r.lv = some xs) : ∃ p vs, v = .ref p ∧ H p = some (.lst vs) ∧ DqA K F vs xs := by
  cases r with
  | d x =>
    cases x with
    | list ys => cases e; cases h with
      | lst h1 h2 => exact ⟨_, _, rfl, s _ _ h1, h2⟩
    | _ => cases e
  | ol ys => cases e; obtain ⟨p, vs, e1, _, _, hp, q⟩ := h; exact ⟨p, vs, e1, hp, q⟩
  | bl ys => cases e; obtain ⟨p, vs, e1, hp, q⟩ := h; exact ⟨p, vs, e1, hp, q⟩
  | _ => cases e
theorem qv_ok (s : Same F H) (h : RVok K H0 F H v r) (e : r.qv = some xs) : ∃ p vs, v = .ref p ∧ SqL K H p vs ∧ DqA K F vs xs := by
  cases r with
  | sc ns => cases e; obtain ⟨a, e1, q⟩ := h; exact ⟨a, _, e1, s.seq q, DqA.of_ints ns⟩
  | d x => obtain ⟨p, vs, e1, hp, q⟩ := lv_ok s h e; exact ⟨p, vs, e1, SqL.of hp, q⟩
  | ol x => obtain ⟨p, vs, e1, hp, q⟩ := lv_ok s h e; exact ⟨p, vs, e1, SqL.of hp, q⟩
  | bl x => obtain ⟨p, vs, e1, hp, q⟩ := lv_ok s h e; exact ⟨p, vs, e1, SqL.of hp, q⟩
  | _ => cases e
theorem tv_ok (s : Same F H) (h : RVok K H0 F H v r) (e : r.tv = some xs) : ∃ p vs, v = .ref p ∧ SqT K H p vs ∧ SqT K F p vs ∧ DqA K F vs xs := by
  cases r with
  | d x =>
    cases x with
    | tuple ys => cases e; cases h with
      | tup h1 h2 => exact ⟨_, _, rfl, same_seqT s h1, h1, h2⟩
    | _ => cases e
  | _ => cases e
theorem data_ok {x : PyData} (s : Same F H) (h : RVok K H0 F H v r) (e : r.data = some x) : Dp K H v x := by
  cases r with
  | d y => cases e; exact Dq.dp x v (Dq.mono s x v h)
  | ol ys => cases e; obtain ⟨p, vs, e1, _, _, hp, q⟩ := h; subst e1; exact .lst (SqL.of hp) (DqA.dp _ _ (DqA.mono s _ _ q))
  | bl ys => cases e; obtain ⟨p, vs, e1, hp, q⟩ := h; subst e1; exact .lst (SqL.of hp) (DqA.dp _ _ (DqA.mono s _ _ q))
  | sc ns => cases e; obtain ⟨a, e1, q⟩ := h; subst e1; exact .lst (s.seq q) (DqA.dp _ _ (DqA.of_ints (F := H) ns))
  | _ => cases e
theorem atI_dq {vs : List V} {i : Int} {d : PyData} (h : DqA K F vs xs) (e : atI xs i = some d) : ∃ w, atI vs i = some w ∧ Dq K F w d := by
  unfold atI at e ⊢
  rw [h.length]
  cases z : ixN xs.length i with
  | none => rw [z] at e; cases e
  | some j => rw [z] at e; exact h.get e
instance dCMul (i j : Int) : Decidable (CMul i j) := inferInstanceAs (Decidable ((-(2 ^ 64) < i ∧ i < 2 ^ 64) ∨ (-(2 ^ 64) < j ∧ j < 2 ^ 64)))
instance dCDiv (i j : Int) : Decidable (CDiv i j) := inferInstanceAs (Decidable (0 < j ∧ j < 1073741824))
instance dCPow (i j : Int) : Decidable (CPow i j) := inferInstanceAs (Decidable (0 ≤ j ∧ j ≤ 1000000 ∧ i.natAbs < 2 ^ 64))
/-! ### numbers -/
def RV.i2 (f : Int → Int → Rs RV) : RV → RV → Rs RV
  | .d (.int i), .d (.int j) => f i j
  | _, _ => .no
def okI (i : Int) : Rs RV := .ok (.d (.int i))
def okB (b : Bool) : Rs RV := .ok (.d (.bool b))
theorem snd_i2 {C : Int → Int → Prop} [∀ i j, Decidable (C i j)] {g : Int → Int → Int} : Op2S K ca (rI C fun i j => .int (g i j)) (RV.i2 fun i j => if C i j then okI (g i j) else .no) := by
  intro W σ F0 H0 F H v1 v2 a b Q gr h1 h2 p
  cases a with
  | d x => cases b with
    | d y => cases x with
      | int i => cases y with
        | int j =>
          cases h1; cases h2
          simp only [RV.i2] at p
          split at p
          · rename_i c; exact ⟨i, j, rfl, rfl, c, p F H _ gr (.int _)⟩
          · exact p.elim
        | _ => exact p.elim
      | _ => exact p.elim
    | _ => cases x <;> exact p.elim
  | _ => exact p.elim
theorem snd_i20 {g : Int → Int → V} {g' : Int → Int → PyData} (hg : ∀ (F : Hp) i j, Dq K F (g i j) (g' i j)) : Op2S K ca (rI0 g) (RV.i2 fun i j => .ok (.d (g' i j))) := by
  intro W σ F0 H0 F H v1 v2 a b Q gr h1 h2 p
  cases a with
  | d x => cases b with
    | d y => cases x with
      | int i => cases y with
        | int j => cases h1; cases h2; exact ⟨i, j, rfl, rfl, p F H _ gr (hg _ _ _)⟩
        | _ => exact p.elim
      | _ => exact p.elim
    | _ => cases x <;> exact p.elim
  | _ => exact p.elim
def gSub := RV.i2 fun i j => okI (i - j)
def gMul := RV.i2 fun i j => if i.natAbs < 18446744073709551616 ∨ j.natAbs < 18446744073709551616 then okI (i * j) else .no
def gMod := RV.i2 fun i j => if 0 < j then okI (i % j) else .no
def gDiv := RV.i2 fun i j => if 0 < j ∧ j.natAbs < 1073741824 then okI (i / j) else .no
def gPow := RV.i2 fun i j => if 0 ≤ j ∧ j ≤ 1000000 ∧ i.natAbs < 2 ^ 64 then okI (i ^ j.toNat) else .no
def gLt := RV.i2 fun i j => okB (decide (i < j))
def gLe := RV.i2 fun i j => okB (decide (i ≤ j))
def gGt := RV.i2 fun i j => okB (decide (j < i))
def gGe := RV.i2 fun i j => okB (decide (j ≤ i))
theorem s_sub : Op2S K ca (rI0 fun i j => .int (i - j)) gSub := snd_i20 fun _ _ _ => .int _
theorem rI_weak {C C' : Int → Int → Prop} {g : Int → Int → V} {G : RV → RV → Rs RV} (h : ∀ i j, C i j → C' i j) (s : Op2S K ca (rI C g) G) : Op2S K ca (rI C' g) G := by
  intro W σ F0 H0 F H v1 v2 a b Q gr h1 h2 p
  obtain ⟨i, j, e1, e2, c, q⟩ := s W σ F0 H0 F H v1 v2 a b Q gr h1 h2 p
  exact ⟨i, j, e1, e2, h i j c, q⟩
theorem s_div : Op2S K ca (rI CDiv fun i j => .int (i / j)) gDiv :=
  rI_weak (C := fun i j => 0 < j ∧ j.natAbs < 1073741824) (fun i j h => by unfold CDiv; omega) snd_i2
theorem s_mul : Op2S K ca (rI CMul fun i j => .int (i * j)) gMul :=
  rI_weak (C := fun i j => i.natAbs < 18446744073709551616 ∨ j.natAbs < 18446744073709551616) (fun i j h => by unfold CMul; omega) snd_i2
theorem s_mod : Op2S K ca (rI (fun _ j => 0 < j) fun i j => .int (i % j)) gMod := snd_i2
theorem s_pow : Op2S K ca (rI CPow fun i j => .int (i ^ j.toNat)) gPow := by
  exact snd_i2 (C := CPow)
theorem s_lt : Op2S K ca (rI0 fun i j => .bl (decide (i < j))) gLt := snd_i20 fun _ _ _ => .bl _
theorem s_le : Op2S K ca (rI0 fun i j => .bl (decide (i ≤ j))) gLe := snd_i20 fun _ _ _ => .bl _
theorem s_gt : Op2S K ca (rI0 fun i j => .bl (decide (j < i))) gGt := snd_i20 fun _ _ _ => .bl _
theorem s_ge : Op2S K ca (rI0 fun i j => .bl (decide (j ≤ i))) gGe := snd_i20 fun _ _ _ => .bl _
def gNeg : RV → Rs RV
  | .d (.int i) => okI (-i)
  | _ => .no
theorem s_neg : Op1S K ca (rU fun i => .int (-i)) gNeg := by
  intro W σ F0 H0 F H v a Q gr h p
  cases a with
  | d x => cases x with
    | int i => cases h; exact ⟨i, rfl, p F H _ gr (.int _)⟩
    | _ => exact p.elim
  | _ => exact p.elim
/-! ### + -/
def rOr (r r' : R2) : R2 := fun x y H Q => r x y H Q ∨ r' x y H Q
theorem op_or' {X : Cx} {f : Value → Value → Sem Value} {r r' : R2} (h : OpR X f r) (h' : OpR X f r') : OpR X f (rOr r r') := by
  intro pins s σ H x y v u Q I rx ry q
  rcases q with q | q
  · exact h pins s σ H x y v u Q I rx ry q
  · exact h' pins s σ H x y v u Q I rx ry q
abbrev rStr : R2 := fun x y H Q => ∃ i j, x = .str i ∧ y = .str j ∧ i.length + j.length ≤ sizeLine ∧ Q (.str (i ++ j)) H
def rAddA (K : PySem.W.Frag) : R2 := rOr (rI0 fun i j => .int (i + j)) (rOr rStr (rOr rCat (rCatA K)))
theorem op_addA {X : Cx} : OpR X (binaryOp .Add) (rAddA X.K) := op_or' op_add (op_or' op_add_str (op_or' op_cat op_catA))
def gAdd (a b : RV) : Rs RV := match a, b with
  | .d (.int i), .d (.int j) => okI (i + j)
  | .d (.str x), .d (.str y) => if x.length + y.length ≤ 1000000 then .ok (.d (.str (x ++ y))) else .no
  | .d (.tuple xs), .d (.tuple ys) => if xs.length + ys.length ≤ 1000000 then .ok (.d (.tuple (xs ++ ys))) else .no
  | a, b => match a.lv, b.lv with
    | some xs, some ys => if xs.length + ys.length ≤ 1000000 then .ok (.ol (xs ++ ys)) else .no
    | _, _ => .no
theorem gAdd_lv {xs ys : List PyData} {a b : RV} (e1 : a.lv = some xs) (e2 : b.lv = some ys) : gAdd a b = if xs.length + ys.length ≤ 1000000 then .ok (.ol (xs ++ ys)) else .no := by
  unfold gAdd
  split
  · cases e1
  · cases e1
  · cases e1
  · rw [e1, e2]
theorem s_add : Op2S K ca (rAddA K) gAdd := by
  intro W σ F0 H0 F H v1 v2 a b Q gr h1 h2 p
  unfold gAdd at p
  split at p
  · cases h1; cases h2; exact .inl ⟨_, _, rfl, rfl, p F H _ gr (.int _)⟩
  · cases h1; cases h2
    split at p
    · rename_i hz
      exact .inr (.inl ⟨_, _, rfl, rfl, Nat.le_of_lt (million hz), p F H _ gr (.str _)⟩)
    · exact p.elim
  · split at p
    · rename_i xs ys hz
      obtain ⟨p1, vs, rfl, a1, a1', q1⟩ := tv_ok gr.cfg.sub h1 rfl
      obtain ⟨p2, ws, rfl, a2, a2', q2⟩ := tv_ok gr.cfg.sub h2 rfl
      refine .inr (.inr (.inr ⟨p1, p2, vs, ws, rfl, rfl, a1, a2, ?_, fun e => ?_, fun e e' => ?_, fun e e' l hl => ?_⟩))
      · rw [q1.length, q2.length]; exact Nat.le_of_lt (million hz)
      · subst e
        have : xs = [] := by have := q1.length; cases xs with
          | nil => rfl
          | cons _ _ => simp at this
        subst this
        exact p F H _ gr (.tup a2' q2)
      · subst e'
        have : ys = [] := by have := q2.length; cases ys with
          | nil => rfl
          | cons _ _ => simp at this
        subst this
        exact p F H _ gr (by rw [List.append_nil]; exact .tup a1' q1)
      · have g2 := Grow.newF gr.cfg (.tup (vs ++ ws)) hl
        exact p _ _ _ (gr.trans g2) (.tup (.inl (.inl upd_same)) ((DqA.mono g2.ff _ _ q1).append (DqA.mono g2.ff _ _ q2)))
    · exact p.elim
  · split at p
    · rename_i xs ys e1 e2
      split at p
      · rename_i hz
        obtain ⟨p1, vs, rfl, a1, q1⟩ := lv_ok gr.cfg.sub h1 e1
        obtain ⟨p2, ws, rfl, a2, q2⟩ := lv_ok gr.cfg.sub h2 e2
        refine .inr (.inr (.inl ⟨p1, p2, vs, ws, rfl, rfl, a1, a2, ?_, fun l hl => ?_⟩))
        · rw [q1.length, q2.length]; exact Nat.le_of_lt (million hz)
        · have g2 := Grow.newO gr.cfg (.lst (vs ++ ws)) hl (fun _ z => by cases z)
          exact p _ _ _ (gr.trans g2) ⟨l, _, rfl, same_none gr.hh hl, same_none gr.cfg.sub hl, upd_same, q1.append q2⟩
      · exact p.elim
    · exact p.elim
/-! ### == and in -/
def gEq (a b : RV) : Rs RV := (rsO a.data).bind fun x => (rsO b.data).bind fun y => if SeqAt.shaped x = true ∧ SeqAt.shaped y = true then okB (PyData.eqv x y) else .no
def gNe (a b : RV) : Rs RV := (rsO a.data).bind fun x => (rsO b.data).bind fun y => if SeqAt.shaped x = true ∧ SeqAt.shaped y = true then okB (!PyData.eqv x y) else .no
theorem s_eq : Op2S K ca (rEqD K) gEq := by
  intro W σ F0 H0 F H v1 v2 a b Q gr h1 h2 p
  unfold gEq at p
  cases e1 : a.data with
  | none => rw [e1] at p; exact p.elim
  | some x => cases e2 : b.data with
    | none => rw [e1, e2] at p; exact p.elim
    | some y =>
      rw [e1, e2] at p
      simp only [rsO_some, Rs.bind_ok] at p
      split at p
      · rename_i s; exact ⟨x, y, data_ok gr.cfg.sub h1 e1, data_ok gr.cfg.sub h2 e2, s.1, s.2, p F H _ gr (.bl _)⟩
      · exact p.elim
theorem s_ne : Op2S K ca (rNeD K) gNe := by
  intro W σ F0 H0 F H v1 v2 a b Q gr h1 h2 p
  unfold gNe at p
  cases e1 : a.data with
  | none => rw [e1] at p; exact p.elim
  | some x => cases e2 : b.data with
    | none => rw [e1, e2] at p; exact p.elim
    | some y =>
      rw [e1, e2] at p
      simp only [rsO_some, Rs.bind_ok] at p
      split at p
      · rename_i s; exact ⟨x, y, data_ok gr.cfg.sub h1 e1, data_ok gr.cfg.sub h2 e2, s.1, s.2, p F H _ gr (.bl _)⟩
      · exact p.elim
def rInT (K : PySem.W.Frag) : R2 := fun x y H Q => ∃ d ds, Dp K H x d ∧ Dp K H y (.tuple ds) ∧ SeqAt.shaped d = true ∧ SeqAt.shaped (.tuple ds) = true ∧ Q (.bl (ds.any fun z => PyData.eqv z d)) H
def rNotInT (K : PySem.W.Frag) : R2 := fun x y H Q => ∃ d ds, Dp K H x d ∧ Dp K H y (.tuple ds) ∧ SeqAt.shaped d = true ∧ SeqAt.shaped (.tuple ds) = true ∧ Q (.bl (!ds.any fun z => PyData.eqv z d)) H
theorem op_inT {X : Cx} (hu : X.A.units + 65 < cLine) : OpR X (compareOp .In) (rInT X.K) := by
  intro pins s σ H x y v u Q I rx ry h
  obtain ⟨d, ds, hd, he, sd, se, q⟩ := h
  obtain ⟨as, r1⟩ := Dp.reads I d x v hd rx
  obtain ⟨bs, r2⟩ := Dp.reads I (.tuple ds) y u he ry
  exact SeqAt.in_tuple_reads r2 r1 (SeqAt.canLay_of_shaped se) (SeqAt.canLay_of_shaped sd) (PyProof.Rows.room_in_shaped sd hu) ⟨.bl _, H, I, rfl, q⟩
theorem op_notInT {X : Cx} (hu : X.A.units + 65 < cLine) : OpR X (compareOp .NotIn) (rNotInT X.K) := by
  intro pins s σ H x y v u Q I rx ry h
  obtain ⟨d, ds, hd, he, sd, se, q⟩ := h
  obtain ⟨as, r1⟩ := Dp.reads I d x v hd rx
  obtain ⟨bs, r2⟩ := Dp.reads I (.tuple ds) y u he ry
  exact SeqAt.notIn_tuple_reads r2 r1 (SeqAt.canLay_of_shaped se) (SeqAt.canLay_of_shaped sd) (PyProof.Rows.room_in_shaped sd hu) ⟨.bl _, H, I, rfl, q⟩
abbrev rSubS : R2 := fun x y H Q => ∃ i j, x = .str i ∧ y = .str j ∧ Q (.bl (!(Builtin.Str.occurrences j i 0 j.length 1).isEmpty)) H
abbrev rNSubS : R2 := fun x y H Q => ∃ i j, x = .str i ∧ y = .str j ∧ Q (.bl (!(!(Builtin.Str.occurrences j i 0 j.length 1).isEmpty))) H
def rInA (K : PySem.W.Frag) : R2 := rOr (rInD K) (rOr (rInT K) rSubS)
def rNotInA (K : PySem.W.Frag) : R2 := rOr (rNotInD K) (rOr (rNotInT K) rNSubS)
theorem op_inA {X : Cx} (hu : X.A.units + 65 < cLine) : OpR X (compareOp .In) (rInA X.K) := op_or' (op_inD hu) (op_or' (op_inT hu) op_in_str)
theorem op_notInA {X : Cx} (hu : X.A.units + 65 < cLine) : OpR X (compareOp .NotIn) (rNotInA X.K) := op_or' (op_notInD hu) (op_or' (op_notInT hu) op_notin_str)
theorem hu65 {A : Around} {k : Nat} (hr : Room k A) : A.units + 65 < cLine := by have := hr.un; omega
def gInB (a b : RV) : Rs Bool := match a, b with
  | .d (.str x), .d (.str y) => .ok (!(Builtin.Str.occurrences y x 0 y.length 1).isEmpty)
  | a, .d (.tuple ds) => (rsO a.data).bind fun x => if SeqAt.shaped x = true ∧ SeqAt.shaped (.tuple ds) = true then .ok (ds.any fun z => PyData.eqv z x) else .no
  | a, b => (rsO a.data).bind fun x => (rsO b.data).bind fun y => match y with
    | .list ds => if SeqAt.shaped x = true ∧ SeqAt.shaped (.list ds) = true then .ok (ds.any fun z => PyData.eqv z x) else .no
    | _ => .no
def gIn (a b : RV) : Rs RV := (gInB a b).bind okB
def gNotIn (a b : RV) : Rs RV := (gInB a b).bind fun k => okB (!k)
theorem gInB_sound {v1 v2 : V} {a b : RV} {α : Type} {P : Rs α → Prop} {k : Bool → Rs α} (s : Same F H) (h1 : RVok K H0 F H v1 a) (h2 : RVok K H0 F H v2 b) (hn : ¬ P .no) (p : P ((gInB a b).bind k)) :
    (∃ d ds, Dp K H v1 d ∧ Dp K H v2 (.list ds) ∧ SeqAt.shaped d = true ∧ SeqAt.shaped (.list ds) = true ∧ P (k (ds.any fun z => PyData.eqv z d))) ∨
    (∃ d ds, Dp K H v1 d ∧ Dp K H v2 (.tuple ds) ∧ SeqAt.shaped d = true ∧ SeqAt.shaped (.tuple ds) = true ∧ P (k (ds.any fun z => PyData.eqv z d))) ∨
    ∃ i j, v1 = .str i ∧ v2 = .str j ∧ P (k (!(Builtin.Str.occurrences j i 0 j.length 1).isEmpty)) := by
  unfold gInB at p
  split at p
  · cases h1; cases h2; exact .inr (.inr ⟨_, _, rfl, rfl, p⟩)
  · rename_i ds
    cases e1 : a.data with
    | none => rw [e1] at p; exact absurd p hn
    | some x =>
      rw [e1] at p
      simp only [rsO_some, Rs.bind_ok] at p
      split at p
      · rename_i z; exact .inr (.inl ⟨x, ds, data_ok s h1 e1, data_ok s h2 rfl, z.1, z.2, p⟩)
      · exact absurd p hn
  · cases e1 : a.data with
    | none => rw [e1] at p; exact absurd p hn
    | some x => cases e2 : b.data with
      | none => rw [e1, e2] at p; exact absurd p hn
      | some y =>
        rw [e1, e2] at p
        simp only [rsO_some, Rs.bind_ok] at p
        split at p
        · split at p
          · rename_i z; exact .inl ⟨x, _, data_ok s h1 e1, data_ok s h2 e2, z.1, z.2, p⟩
          · exact absurd p hn
        · exact absurd p hn
theorem s_in : Op2S K ca (rInA K) gIn := by
  intro W σ F0 H0 F H v1 v2 a b Q gr h1 h2 p
  rcases gInB_sound (P := PostE K ca W σ F0 H0 Q) gr.cfg.sub h1 h2 (fun h => h) p with ⟨d, ds, q1, q2, q3, q4, q5⟩ | ⟨d, ds, q1, q2, q3, q4, q5⟩ | ⟨i, j, e1, e2, q5⟩
  · exact .inl ⟨d, ds, q1, q2, q3, q4, q5 F H _ gr (.bl _)⟩
  · exact .inr (.inl ⟨d, ds, q1, q2, q3, q4, q5 F H _ gr (.bl _)⟩)
  · exact .inr (.inr ⟨i, j, e1, e2, q5 F H _ gr (.bl _)⟩)
theorem s_notIn : Op2S K ca (rNotInA K) gNotIn := by
  intro W σ F0 H0 F H v1 v2 a b Q gr h1 h2 p
  rcases gInB_sound (P := PostE K ca W σ F0 H0 Q) gr.cfg.sub h1 h2 (fun h => h) p with ⟨d, ds, q1, q2, q3, q4, q5⟩ | ⟨d, ds, q1, q2, q3, q4, q5⟩ | ⟨i, j, e1, e2, q5⟩
  · exact .inl ⟨d, ds, q1, q2, q3, q4, q5 F H _ gr (.bl _)⟩
  · exact .inr (.inl ⟨d, ds, q1, q2, q3, q4, q5 F H _ gr (.bl _)⟩)
  · exact .inr (.inr ⟨i, j, e1, e2, q5 F H _ gr (.bl _)⟩)
/-- is None -/
def isNone : RV → Bool
  | .d .none => true
  | _ => false
def gIs (a b : RV) : Rs RV := match b with
  | .d .none => okB (isNone a)
  | _ => .no
def gIsNot (a b : RV) : Rs RV := match b with
  | .d .none => okB (!isNone a)
  | _ => .no
theorem isNone_ok (h : RVok K H0 F H v r) : decide (v = .non) = isNone r := by
  cases r with
  | d x => cases x <;> cases h <;> rfl
  | ol xs => obtain ⟨p, vs, rfl, _⟩ := h; rfl
  | bl xs => obtain ⟨p, vs, rfl, _⟩ := h; rfl
  | od xs => obtain ⟨p, vs, rfl, _⟩ := h; rfl
  | bd xs => obtain ⟨p, vs, rfl, _⟩ := h; rfl
  | ot xs => obtain ⟨p, vs, rfl, _⟩ := h; rfl
  | bt xs => obtain ⟨p, vs, rfl, _⟩ := h; rfl
  | sc ns => obtain ⟨a, rfl, _⟩ := h; rfl
  | xo a dd c fs => obtain ⟨rfl, _⟩ := h; rfl
theorem s_is : Op2S K ca (fun x y H Q => y = .non ∧ Q (.bl (decide (x = .non))) H) gIs := by
  intro W σ F0 H0 F H v1 v2 a b Q gr h1 h2 p
  unfold gIs at p
  split at p
  · cases h2; exact ⟨rfl, by rw [isNone_ok h1]; exact p F H _ gr (.bl _)⟩
  · exact p.elim
theorem s_isNot : Op2S K ca (fun x y H Q => y = .non ∧ Q (.bl (!decide (x = .non))) H) gIsNot := by
  intro W σ F0 H0 F H v1 v2 a b Q gr h1 h2 p
  unfold gIsNot at p
  split at p
  · cases h2; exact ⟨rfl, by rw [isNone_ok h1]; exact p F H _ gr (.bl _)⟩
  · exact p.elim
/-! ### subscripts -/
def RV.sq (r : RV) : Option (List PyData) := match r with
  | .d (.tuple xs) => some xs
  | r => r.qv
def gIx (a b : RV) : Rs RV := match b with
  | .d (.int i) => (match a with
    | .d (.str z) => if z.length ≤ 1000000 then (rsO (atI z.cps.toList i)).bind fun c => .ok (.d (.str ⟨#[c]⟩)) else .no
    | a => (rsO a.sq).bind fun xs => (rsO (atI xs i)).bind fun d => .ok (.d d))
  | _ => .no
theorem s_ix : Op2S K ca (rIx K) gIx := by
  intro W σ F0 H0 F H v1 v2 a b Q gr h1 h2 p
  unfold gIx at p
  split at p
  · rename_i i
    cases h2
    split at p
    · rename_i z
      cases h1
      split at p
      · rename_i hz
        cases e : atI z.cps.toList i with
        | none => rw [e] at p; exact p.elim
        | some c => rw [e] at p; exact .inr (.inr ⟨z, i, c, rfl, rfl, Nat.le_of_lt (million hz), e, p F H _ gr (.str _)⟩)
      · exact p.elim
    · cases e : a.sq with
      | none => rw [e] at p; exact p.elim
      | some xs =>
        rw [e] at p
        simp only [rsO_some, Rs.bind_ok] at p
        cases e2 : atI xs i with
        | none => rw [e2] at p; exact p.elim
        | some d =>
          rw [e2] at p
          by_cases ht : a.tv = some xs
          · obtain ⟨p1, vs, rfl, a1, _, q1⟩ := tv_ok gr.cfg.sub h1 ht
            obtain ⟨w, e3, q3⟩ := atI_dq q1 e2
            exact .inr (.inl ⟨p1, vs, i, w, rfl, rfl, a1, e3, p F H _ gr q3⟩)
          · have eq : a.qv = some xs := by
              unfold RV.sq at e
              split at e
              · exact absurd (by exact e) ht
              · exact e
            obtain ⟨p1, vs, rfl, a1, q1⟩ := qv_ok gr.cfg.sub h1 eq
            obtain ⟨w, e3, q3⟩ := atI_dq q1 e2
            exact .inl ⟨p1, vs, i, w, rfl, rfl, a1, e3, p F H _ gr q3⟩
  · exact p.elim
/-! ### slices -/
def cutL {α : Type} (xs : List α) (lo hi : Option Int) : List α := (xs.drop (HT.sIx xs.length 0 lo)).take (HT.sIx xs.length xs.length hi - HT.sIx xs.length 0 lo)
theorem cut_dq {vs : List V} (h : DqA K F vs xs) (lo hi : Option Int) : DqA K F (cutV vs lo hi) (cutL xs lo hi) := by
  unfold cutV cutL
  rw [h.length]
  exact (h.drop _).take _
def gSl (a : RV) (lo hi : Option Int) : Rs RV := match a with
  | .d (.str z) => if z.length ≤ 1000000 then .ok (.d (.str (cutS z lo hi))) else .no
  | .d (.tuple xs) => .ok (.d (.tuple (cutL xs lo hi)))
  | a => (rsO a.qv).bind fun xs => .ok (.ol (cutL xs lo hi))
def rSlAll (K : PySem.W.Frag) : V → Option Int → Option Int → Hp → VK → Prop := fun x lo hi H Q => rSlS x lo hi H Q ∨ (rSlA K x lo hi H Q ∨ rSlL K x lo hi H Q)
theorem sl_all {X : Cx} : SlR X (rSlAll X.K) := SlR.or sl_str (SlR.or sl_tupA sl_list)
theorem s_sl {W : WX} {σ : L2.St} {F0 H0' : Hp} {lo hi : Option Int} {Q : VK} (gr : Grow F0 H0' F H) (h : RVok K H0' F H v r) (p : PostE K ca W σ F0 H0' Q (gSl r lo hi)) : rSlAll K v lo hi H Q := by
  unfold gSl at p
  split at p
  · cases h
    split at p
    · rename_i hz
      exact .inl ⟨_, rfl, Nat.le_of_lt (million hz), p F H _ gr (.str _)⟩
    · exact p.elim
  · rename_i xs
    obtain ⟨p1, vs, rfl, a1, a2, q1⟩ := tv_ok gr.cfg.sub h rfl
    refine .inr (.inl ⟨p1, vs, rfl, a1, fun e => ?_, fun e l hl => ?_⟩)
    · have ew : cutL xs lo hi = xs := by
        unfold cutL
        rw [q1.length] at e
        rw [e.1, e.2]
        simp
      exact p F H _ gr (by rw [ew]; exact .tup a2 q1)
    · have g2 := Grow.newF gr.cfg (.tup (cutV vs lo hi)) hl
      exact p _ _ _ (gr.trans g2) (.tup (.inl (.inl upd_same)) (DqA.mono g2.ff _ _ (cut_dq q1 lo hi)))
  · cases e : r.qv with
    | none => rw [e] at p; exact p.elim
    | some xs =>
      rw [e] at p
      obtain ⟨p1, vs, rfl, a1, q1⟩ := qv_ok gr.cfg.sub h e
      refine .inr (.inr ⟨p1, vs, rfl, a1, fun l hl => ?_⟩)
      have g2 := Grow.newO gr.cfg (.lst (cutV vs lo hi)) hl (fun _ z => by cases z)
      exact p _ _ _ (gr.trans g2) ⟨l, _, rfl, same_none gr.hh hl, same_none gr.cfg.sub hl, upd_same, cut_dq q1 lo hi⟩
end
end VL

namespace VL
open PySem PySem.Spec PyProof.Rows L2

/-! ## built-in functions -/
section
variable {K : PySem.W.Frag} {ca : Nat → Addr}
theorem pr1 {P : V → RV → Prop} {vs : List V} {r : RV} (h : Paired P vs [r]) : ∃ v, vs = [v] ∧ P v r := by
  cases h with
  | cons h1 h2 => cases h2; exact ⟨_, rfl, h1⟩
theorem pr2 {P : V → RV → Prop} {vs : List V} {r r' : RV} (h : Paired P vs [r, r']) : ∃ v w, vs = [v, w] ∧ P v r ∧ P w r' := by
  cases h with
  | cons h1 h2 => cases h2 with
    | cons h3 h4 => cases h4; exact ⟨_, _, rfl, h1, h3⟩
/-- a sequence that is read -/
theorem sq_ok {H0 F H : Hp} {v : V} {r : RV} {xs : List PyData} (s : Same F H) (h : RVok K H0 F H v r) (e : r.sq = some xs) : ∃ p vs, v = .ref p ∧ (SqL K H p vs ∨ SqT K H p vs) ∧ DqA K F vs xs := by
  by_cases ht : r.tv = some xs
  · obtain ⟨p1, vs, e1, a1, _, q1⟩ := tv_ok s h ht
    exact ⟨p1, vs, e1, .inr a1, q1⟩
  · have eq : r.qv = some xs := by
      unfold RV.sq at e
      split at e
      · exact absurd (by exact e) ht
      · exact e
    obtain ⟨p1, vs, e1, a1, q1⟩ := qv_ok s h eq
    exact ⟨p1, vs, e1, .inl a1, q1⟩
def gLen : List RV → Rs RV
  | [.d (.str z)] => if z.length ≤ 1000000 then okI z.length else .no
  | [.bd kvs] => okI kvs.length
  | [.od kvs] => okI kvs.length
  | [r] => (rsO r.sq).bind fun xs => okI xs.length
  | _ => .no
def rOrC (r r' : List V → Hp → VK → Prop) : List V → Hp → VK → Prop := fun xs H Q => r xs H Q ∨ r' xs H Q
abbrev rLenS (K : PySem.W.Frag) : List V → Hp → VK → Prop := fun xs H Q => ∃ p ys, xs = [.ref p] ∧ (SqL K H p ys ∨ SqT K H p ys) ∧ Q (.int ys.length) H
abbrev rLenT : List V → Hp → VK → Prop := fun xs H Q => ∃ z, xs = [.str z] ∧ z.length ≤ sizeLine ∧ Q (.int z.length) H
abbrev rLenD : List V → Hp → VK → Prop := fun xs H Q => ∃ p kvs, xs = [.ref p] ∧ H p = some (.dK kvs) ∧ Q (.int kvs.length) H
theorem call_lenD' {X : Cx} : CallR X (.builtin "len") rLenD := by
  intro pins s σ H xs us Q I r h
  obtain ⟨p, kvs, e, hp, q⟩ := h
  exact call_lenD pins s σ H xs us Q I r ⟨p, kvs, e, hp, q⟩
theorem call_lenA {X : Cx} : CallR X (.builtin "len") (fun xs H Q => rLenS X.K xs H Q ∨ (rLenT xs H Q ∨ rLenD xs H Q)) := CallR.or call_len_seq (CallR.or call_len_str call_lenD')
theorem KD.length {κ : Type} {F : Hp} : ∀ {a : List (κ × V)} {b : List (κ × PyData)}, KD K F a b → a.length = b.length := fun h => Paired.length h
theorem c_len : CaS K ca (fun xs H Q => rLenS K xs H Q ∨ (rLenT xs H Q ∨ rLenD xs H Q)) gLen := by
  intro W σ F0 H0 F H vs as Q gr h p
  unfold gLen at p
  split at p
  · obtain ⟨v, rfl, hx⟩ := pr1 h
    cases hx
    split at p
    · rename_i hz; exact .inr (.inl ⟨_, rfl, Nat.le_of_lt (million hz), p F H _ gr (.int _)⟩)
    · exact p.elim
  · obtain ⟨v, rfl, q, ks, rfl, hp, kd⟩ := pr1 h
    exact .inr (.inr ⟨q, ks, rfl, hp, by rw [kd.length]; exact p F H _ gr (.int _)⟩)
  · obtain ⟨v, rfl, q, ks, rfl, _, _, hp, kd⟩ := pr1 h
    exact .inr (.inr ⟨q, ks, rfl, hp, by rw [kd.length]; exact p F H _ gr (.int _)⟩)
  · rename_i r _ _ _
    obtain ⟨v, rfl, hx⟩ := pr1 h
    cases e : r.sq with
    | none => rw [e] at p; exact p.elim
    | some xs =>
      rw [e] at p
      obtain ⟨q, ws, rfl, hq, dq⟩ := sq_ok gr.cfg.sub hx e
      exact .inl ⟨q, ws, rfl, hq, by rw [dq.length]; exact p F H _ gr (.int _)⟩
  · exact p.elim
def gTupleC : List RV → Rs RV
  | [r] => (match r.tv with
    | some xs => .ok (.d (.tuple xs))
    | none => (rsO r.qv).bind fun xs => .ok (.d (.tuple xs)))
  | _ => .no
theorem c_tuple : CaS K ca (fun xs H Q => ∃ p ys, xs = [.ref p] ∧ ((SqL K H p ys ∧ ∀ l, H l = none → Q (.ref l) (upd H l (.tup ys))) ∨ (SqT K H p ys ∧ Q (.ref p) H))) gTupleC := by
  intro W σ F0 H0 F H vs as Q gr h p
  unfold gTupleC at p
  split at p
  · rename_i r
    obtain ⟨v, rfl, hx⟩ := pr1 h
    cases e : r.tv with
    | some xs =>
      rw [e] at p
      obtain ⟨q, ws, rfl, a1, a2, dq⟩ := tv_ok gr.cfg.sub hx e
      exact ⟨q, ws, rfl, .inr ⟨a1, p F H _ gr (.tup a2 dq)⟩⟩
    | none =>
      rw [e] at p
      simp only at p
      cases e2 : r.qv with
      | none => rw [e2] at p; exact p.elim
      | some xs =>
        rw [e2] at p
        obtain ⟨q, ws, rfl, a1, dq⟩ := qv_ok gr.cfg.sub hx e2
        refine ⟨q, ws, rfl, .inl ⟨a1, fun l hl => ?_⟩⟩
        have g2 := Grow.newF gr.cfg (.tup ws) hl
        exact p _ _ _ (gr.trans g2) (.tup (.inl (.inl upd_same)) (DqA.mono g2.ff _ _ dq))
  · exact p.elim
def gListC : List RV → Rs RV
  | [r] => (rsO r.sq).bind fun xs => .ok (.ol xs)
  | _ => .no
theorem c_list : CaS K ca (fun xs H Q => ∃ p ys, xs = [.ref p] ∧ (SqL K H p ys ∨ SqT K H p ys) ∧ ∀ l, H l = none → Q (.ref l) (upd H l (.lst ys))) gListC := by
  intro W σ F0 H0 F H vs as Q gr h p
  unfold gListC at p
  split at p
  · rename_i r
    obtain ⟨v, rfl, hx⟩ := pr1 h
    cases e : r.sq with
    | none => rw [e] at p; exact p.elim
    | some xs =>
      rw [e] at p
      obtain ⟨q, ws, rfl, hq, dq⟩ := sq_ok gr.cfg.sub hx e
      refine ⟨q, ws, rfl, hq, fun l hl => ?_⟩
      have g2 := Grow.newO gr.cfg (.lst ws) hl (fun _ z => by cases z)
      exact p _ _ _ (gr.trans g2) ⟨l, _, rfl, same_none gr.hh hl, same_none gr.cfg.sub hl, upd_same, dq⟩
  · exact p.elim
def gMin2 : List RV → Rs RV
  | [.d (.int i), .d (.int j)] => okI (if j < i then j else i)
  | _ => .no
def gMax2 : List RV → Rs RV
  | [.d (.int i), .d (.int j)] => okI (if j > i then j else i)
  | _ => .no
theorem c_min2 : CaS K ca (fun xs H Q => ∃ i j, xs = [.int i, .int j] ∧ Q (.int (if j < i then j else i)) H) gMin2 := by
  intro W σ F0 H0 F H vs as Q gr h p
  unfold gMin2 at p
  split at p
  · obtain ⟨v, w, rfl, h1, h2⟩ := pr2 h
    cases h1; cases h2
    exact ⟨_, _, rfl, p F H _ gr (.int _)⟩
  · exact p.elim
theorem c_max2 : CaS K ca (fun xs H Q => ∃ i j, xs = [.int i, .int j] ∧ Q (.int (if j > i then j else i)) H) gMax2 := by
  intro W σ F0 H0 F H vs as Q gr h p
  unfold gMax2 at p
  split at p
  · obtain ⟨v, w, rfl, h1, h2⟩ := pr2 h
    cases h1; cases h2
    exact ⟨_, _, rfl, p F H _ gr (.int _)⟩
  · exact p.elim
/-! ### lists of ints, of truth values -/
def intsD : List PyData → Option (List Int)
  | [] => some []
  | .int i :: xs => (intsD xs).map (i :: ·)
  | _ => none
def boolsD : List PyData → Option (List Bool)
  | [] => some []
  | .bool i :: xs => (boolsD xs).map (i :: ·)
  | _ => none
theorem ints_ok {F : Hp} : ∀ {xs : List PyData} {vs : List V} {ns : List Int}, DqA K F vs xs → intsD xs = some ns → vs = ns.map V.int
  | [], _, ns, h, e => by cases h; cases e; rfl
  | x :: xs, _, ns, h, e => by
    cases h with
    | cons h1 h2 =>
      cases x with
      | int i =>
        cases e2 : intsD xs with
        | none => simp [intsD, e2] at e
        | some ms => simp [intsD, e2] at e; subst e; cases h1; rw [ints_ok h2 e2]; rfl
      | _ => cases e
theorem bools_ok {F : Hp} : ∀ {xs : List PyData} {vs : List V} {ns : List Bool}, DqA K F vs xs → boolsD xs = some ns → vs = ns.map V.bl
  | [], _, ns, h, e => by cases h; cases e; rfl
  | x :: xs, _, ns, h, e => by
    cases h with
    | cons h1 h2 =>
      cases x with
      | bool i =>
        cases e2 : boolsD xs with
        | none => simp [boolsD, e2] at e
        | some ms => simp [boolsD, e2] at e; subst e; cases h1; rw [bools_ok h2 e2]; rfl
      | _ => cases e
@[simp] theorem intsD_map (ns : List Int) : intsD (ns.map .int) = some ns := by
  induction ns with
  | nil => rfl
  | cons i ns ih => simp [intsD, ih]
@[simp] theorem boolsD_map (ns : List Bool) : boolsD (ns.map .bool) = some ns := by
  induction ns with
  | nil => rfl
  | cons i ns ih => simp [boolsD, ih]
def ins (x : Int) : List Int → List Int
  | [] => [x]
  | y :: ys => if x ≤ y then x :: y :: ys else y :: ins x ys
def isort : List Int → List Int
  | [] => []
  | x :: xs => ins x (isort xs)
theorem ins_perm (x : Int) : ∀ ys, (ins x ys).Perm (x :: ys)
  | [] => .refl _
  | y :: ys => by
    unfold ins
    split
    · exact .refl _
    · exact ((ins_perm x ys).cons y).trans (.swap x y ys)
theorem isort_perm : ∀ xs, (isort xs).Perm xs
  | [] => .refl _
  | x :: xs => (ins_perm x _).trans ((isort_perm xs).cons x)
theorem ins_sorted (x : Int) : ∀ {ys : List Int}, ys.Pairwise (· ≤ ·) → (ins x ys).Pairwise (· ≤ ·)
  | [], _ => by simp [ins]
  | y :: ys, h => by
    have h1 := List.pairwise_cons.mp h
    unfold ins
    split
    · rename_i c
      refine List.pairwise_cons.mpr ⟨fun z hz => ?_, h⟩
      rcases List.mem_cons.mp hz with rfl | hz
      · exact c
      · exact Int.le_trans c (h1.1 z hz)
    · rename_i c
      refine List.pairwise_cons.mpr ⟨fun z hz => ?_, ins_sorted x h1.2⟩
      rcases List.mem_cons.mp ((ins_perm x ys).mem_iff.mp hz) with rfl | hz
      · omega
      · exact h1.1 z hz
theorem isort_sorted : ∀ xs, (isort xs).Pairwise (· ≤ ·)
  | [] => .nil
  | x :: xs => ins_sorted x (isort_sorted xs)
theorem sorted_uniq : ∀ {xs ys : List Int}, xs.Perm ys → xs.Pairwise (· ≤ ·) → ys.Pairwise (· ≤ ·) → xs = ys
  | [], ys, p, _, _ => (List.Perm.nil_eq p)
  | x :: xs, [], p, _, _ => by have := p.length_eq; simp at this
  | x :: xs, y :: ys, p, h1, h2 => by
    have a1 := List.pairwise_cons.mp h1
    have a2 := List.pairwise_cons.mp h2
    have e : x = y := by
      have m1 : x ∈ y :: ys := p.mem_iff.mp List.mem_cons_self
      have m2 : y ∈ x :: xs := p.mem_iff.mpr List.mem_cons_self
      rcases List.mem_cons.mp m1 with z | z
      · exact z
      · rcases List.mem_cons.mp m2 with z' | z'
        · exact z'.symm
        · have := a1.1 y z'; have := a2.1 x z; omega
    subst e
    rw [sorted_uniq ((List.perm_cons x).mp p) a1.2 a2.2]
def gSorted : List RV → Rs RV
  | [r] => (rsO r.qv).bind fun xs => (rsO (intsD xs)).bind fun ns => .ok (.ol ((isort ns).map .int))
  | _ => .no
theorem c_sorted : CaS K ca (rSortedI K) gSorted := by
  intro W σ F0 H0 F H vs as Q gr h p
  unfold gSorted at p
  split at p
  · rename_i r
    obtain ⟨v, rfl, hx⟩ := pr1 h
    cases e : r.qv with
    | none => rw [e] at p; exact p.elim
    | some xs =>
      rw [e] at p
      simp only [rsO_some, Rs.bind_ok] at p
      cases e2 : intsD xs with
      | none => rw [e2] at p; exact p.elim
      | some ns =>
        rw [e2] at p
        obtain ⟨q, ws, rfl, hq, dq⟩ := qv_ok gr.cfg.sub hx e
        have := ints_ok dq e2
        subst this
        refine ⟨q, ns, rfl, hq, fun ns' l pm so hl => ?_⟩
        have e3 : ns' = isort ns := sorted_uniq (pm.trans (isort_perm ns).symm) so (isort_sorted ns)
        subst e3
        have g2 := Grow.newO gr.cfg (.lst ((isort ns).map V.int)) hl (fun _ z => by cases z)
        exact p _ _ _ (gr.trans g2) ⟨l, _, rfl, same_none gr.hh hl, same_none gr.cfg.sub hl, upd_same, DqA.of_ints _⟩
  · exact p.elim
def gAny : List RV → Rs RV
  | [r] => (rsO r.qv).bind fun xs => (rsO (boolsD xs)).bind fun bs => okB (bs.any id)
  | _ => .no
def gAll : List RV → Rs RV
  | [r] => (rsO r.qv).bind fun xs => (rsO (boolsD xs)).bind fun bs => okB (bs.all id)
  | _ => .no
def gSum : List RV → Rs RV
  | [r] => (rsO r.qv).bind fun xs => (rsO (intsD xs)).bind fun bs => okI bs.sum
  | _ => .no
theorem c_any : CaS K ca (rAny K) gAny := by
  intro W σ F0 H0 F H vs as Q gr h p
  unfold gAny at p
  split at p
  · rename_i r
    obtain ⟨v, rfl, hx⟩ := pr1 h
    cases e : r.qv with
    | none => rw [e] at p; exact p.elim
    | some xs =>
      rw [e] at p
      simp only [rsO_some, Rs.bind_ok] at p
      cases e2 : boolsD xs with
      | none => rw [e2] at p; exact p.elim
      | some ns =>
        rw [e2] at p
        obtain ⟨q, ws, rfl, hq, dq⟩ := qv_ok gr.cfg.sub hx e
        have := bools_ok dq e2
        subst this
        exact ⟨q, ns, rfl, hq, p F H _ gr (.bl _)⟩
  · exact p.elim
theorem c_all : CaS K ca (rAll K) gAll := by
  intro W σ F0 H0 F H vs as Q gr h p
  unfold gAll at p
  split at p
  · rename_i r
    obtain ⟨v, rfl, hx⟩ := pr1 h
    cases e : r.qv with
    | none => rw [e] at p; exact p.elim
    | some xs =>
      rw [e] at p
      simp only [rsO_some, Rs.bind_ok] at p
      cases e2 : boolsD xs with
      | none => rw [e2] at p; exact p.elim
      | some ns =>
        rw [e2] at p
        obtain ⟨q, ws, rfl, hq, dq⟩ := qv_ok gr.cfg.sub hx e
        have := bools_ok dq e2
        subst this
        exact ⟨q, ns, rfl, hq, p F H _ gr (.bl _)⟩
  · exact p.elim
theorem c_sum : CaS K ca (rSum K) gSum := by
  intro W σ F0 H0 F H vs as Q gr h p
  unfold gSum at p
  split at p
  · rename_i r
    obtain ⟨v, rfl, hx⟩ := pr1 h
    cases e : r.qv with
    | none => rw [e] at p; exact p.elim
    | some xs =>
      rw [e] at p
      simp only [rsO_some, Rs.bind_ok] at p
      cases e2 : intsD xs with
      | none => rw [e2] at p; exact p.elim
      | some ns =>
        rw [e2] at p
        obtain ⟨q, ws, rfl, hq, dq⟩ := qv_ok gr.cfg.sub hx e
        have := ints_ok dq e2
        subst this
        exact ⟨q, ns, rfl, hq, p F H _ gr (.int _)⟩
  · exact p.elim
/-- the greatest, the least of a list of ints -/
def maxL : List Int → Option Int
  | [] => none
  | x :: xs => some (xs.foldl (fun a b => if b > a then b else a) x)
def minL : List Int → Option Int
  | [] => none
  | x :: xs => some (xs.foldl (fun a b => if b < a then b else a) x)
theorem fold_max (xs : List Int) : ∀ x, (xs.foldl (fun a b => if b > a then b else a) x) ∈ x :: xs ∧ ∀ y ∈ x :: xs, y ≤ xs.foldl (fun a b => if b > a then b else a) x := by
  induction xs with
  | nil => intro x; simp
  | cons z xs ih =>
    intro x
    simp only [List.foldl_cons]
    by_cases c : z > x
    · rw [if_pos c]
      obtain ⟨i1, i2⟩ := ih z
      refine ⟨List.mem_cons_of_mem _ i1, fun y hy => ?_⟩
      rcases List.mem_cons.mp hy with rfl | hy
      · have := i2 z List.mem_cons_self; omega
      · exact i2 y hy
    · rw [if_neg c]
      obtain ⟨i1, i2⟩ := ih x
      refine ⟨?_, fun y hy => ?_⟩
      · rcases List.mem_cons.mp i1 with e | e
        · rw [e]; exact List.mem_cons_self
        · exact List.mem_cons_of_mem _ (List.mem_cons_of_mem _ e)
      · rcases List.mem_cons.mp hy with rfl | hy
        · exact i2 y List.mem_cons_self
        · rcases List.mem_cons.mp hy with rfl | hy
          · have := i2 x List.mem_cons_self; omega
          · exact i2 y (List.mem_cons_of_mem _ hy)
theorem fold_min (xs : List Int) : ∀ x, (xs.foldl (fun a b => if b < a then b else a) x) ∈ x :: xs ∧ ∀ y ∈ x :: xs, xs.foldl (fun a b => if b < a then b else a) x ≤ y := by
  induction xs with
  | nil => intro x; simp
  | cons z xs ih =>
    intro x
    simp only [List.foldl_cons]
    by_cases c : z < x
    · rw [if_pos c]
      obtain ⟨i1, i2⟩ := ih z
      refine ⟨List.mem_cons_of_mem _ i1, fun y hy => ?_⟩
      rcases List.mem_cons.mp hy with rfl | hy
      · have := i2 z List.mem_cons_self; omega
      · exact i2 y hy
    · rw [if_neg c]
      obtain ⟨i1, i2⟩ := ih x
      refine ⟨?_, fun y hy => ?_⟩
      · rcases List.mem_cons.mp i1 with e | e
        · rw [e]; exact List.mem_cons_self
        · exact List.mem_cons_of_mem _ (List.mem_cons_of_mem _ e)
      · rcases List.mem_cons.mp hy with rfl | hy
        · exact i2 y List.mem_cons_self
        · rcases List.mem_cons.mp hy with rfl | hy
          · have := i2 x List.mem_cons_self; omega
          · exact i2 y (List.mem_cons_of_mem _ hy)
def gMax1 : List RV → Rs RV
  | [r] => (rsO r.qv).bind fun xs => (rsO (intsD xs)).bind fun bs => (rsO (maxL bs)).bind okI
  | _ => .no
def gMin1 : List RV → Rs RV
  | [r] => (rsO r.qv).bind fun xs => (rsO (intsD xs)).bind fun bs => (rsO (minL bs)).bind okI
  | _ => .no
theorem c_max1 : CaS K ca (rMax K) gMax1 := by
  intro W σ F0 H0 F H vs as Q gr h p
  unfold gMax1 at p
  split at p
  · rename_i r
    obtain ⟨v, rfl, hx⟩ := pr1 h
    cases e : r.qv with
    | none => rw [e] at p; exact p.elim
    | some xs =>
      rw [e] at p
      simp only [rsO_some, Rs.bind_ok] at p
      cases e2 : intsD xs with
      | none => rw [e2] at p; exact p.elim
      | some ns =>
        rw [e2] at p
        obtain ⟨q, ws, rfl, hq, dq⟩ := qv_ok gr.cfg.sub hx e
        have := ints_ok dq e2
        subst this
        cases ns with
        | nil => exact p.elim
        | cons n ns =>
          refine ⟨q, n :: ns, rfl, hq, by simp, fun m hm hle => ?_⟩
          have f := fold_max ns n
          have e3 : m = ns.foldl (fun a b => if b > a then b else a) n := by have := f.2 m hm; have := hle _ f.1; omega
          rw [e3]
          exact p F H _ gr (.int _)
  · exact p.elim
theorem c_min1 : CaS K ca (rMin K) gMin1 := by
  intro W σ F0 H0 F H vs as Q gr h p
  unfold gMin1 at p
  split at p
  · rename_i r
    obtain ⟨v, rfl, hx⟩ := pr1 h
    cases e : r.qv with
    | none => rw [e] at p; exact p.elim
    | some xs =>
      rw [e] at p
      simp only [rsO_some, Rs.bind_ok] at p
      cases e2 : intsD xs with
      | none => rw [e2] at p; exact p.elim
      | some ns =>
        rw [e2] at p
        obtain ⟨q, ws, rfl, hq, dq⟩ := qv_ok gr.cfg.sub hx e
        have := ints_ok dq e2
        subst this
        cases ns with
        | nil => exact p.elim
        | cons n ns =>
          refine ⟨q, n :: ns, rfl, hq, by simp, fun m hm hle => ?_⟩
          have f := fold_min ns n
          have e3 : m = ns.foldl (fun a b => if b < a then b else a) n := by have := f.2 m hm; have := hle _ f.1; omega
          rw [e3]
          exact p F H _ gr (.int _)
  · exact p.elim
/-- str(n), int(text) -/
def gStr : List RV → Rs RV
  | [.d (.int i)] => if i.natAbs.log2 < 1920 then .ok (.d (.str (toString i : String))) else .no
  | _ => .no
theorem c_str : CaS K ca (fun xs H Q => ∃ i, xs = [.int i] ∧ i.natAbs.log2 < 1920 ∧ Q (.str (toString i : String)) H) gStr := by
  intro W σ F0 H0 F H vs as Q gr h p
  unfold gStr at p
  split at p
  · obtain ⟨v, rfl, hx⟩ := pr1 h
    cases hx
    split at p
    · rename_i c; exact ⟨_, rfl, c, p F H _ gr (.str _)⟩
    · exact p.elim
  · exact p.elim
def gInt : List RV → Rs RV
  | [.d (.str a)] => (rsO (PySem.intText? a)).bind fun n => if a.length ≤ 640 then okI n else .no
  | _ => .no
theorem c_int : CaS K ca (fun xs H Q => ∃ a n, xs = [.str a] ∧ PySem.intText? a = some n ∧ a.length ≤ 640 ∧ Q (.int n) H) gInt := by
  intro W σ F0 H0 F H vs as Q gr h p
  unfold gInt at p
  split at p
  · rename_i a
    obtain ⟨v, rfl, hx⟩ := pr1 h
    cases hx
    cases e : PySem.intText? a with
    | none => rw [e] at p; exact p.elim
    | some n =>
      rw [e] at p
      simp only [rsO_some, Rs.bind_ok] at p
      split at p
      · rename_i c; exact ⟨_, _, rfl, e, c, p F H _ gr (.int _)⟩
      · exact p.elim
  · exact p.elim
end
section
variable {ca : Nat → Addr} {W : WX} {X : Cx} {a b e : Expr} {es : List Expr} {fa fb : VEnv → Rs RV} {pos : Pos}
/-! ### slices -/
structure VO (ca : Nat → Addr) (W : WX) (X : Cx) (e : Option Expr) (f : VEnv → Rs (Option Int)) : Prop where
  ex : ∃ t, PO X e t ∧ ∀ B F env σ H Q, StOk X.K B F env σ H → (∀ o, f env = .ok o → ∀ F' H', Grow F H F' H' → Q o H') → (∀ c fs, f env = .ex c fs → PostX X.K ca W σ F H c fs) → f env ≠ .no → t σ H Q
def oN : VEnv → Rs (Option Int) := fun _ => .ok none
def oS (f : VEnv → Rs RV) : VEnv → Rs (Option Int) := fun env => (f env).bind fun r => match r with
  | .d (.int i) => .ok (some i)
  | _ => .no
theorem vo_none : VO ca W X none oN := ⟨_, po_none, fun B F env σ H Q st p _ _ => p none rfl F H (Grow.refl st.cfg)⟩
theorem vo_some (h : VE ca W X e fa) : VO ca W X (some e) (oS fa) := by
  obtain ⟨t, pe, se⟩ := h
  refine ⟨_, po_some pe, fun B F env σ H Q st p px pn => ?_⟩
  show t σ H fun x H1 => ∃ i, x = .int i ∧ Q (some i) H1
  refine se B F env σ H _ st ?_
  unfold oS at p px pn
  cases e1 : fa env with
  | no => rw [e1] at pn; exact (pn rfl).elim
  | ex c fs => exact px c fs (by rw [e1]; rfl)
  | ok r =>
    rw [e1] at p pn
    intro F' H' v g q
    simp only [Rs.bind_ok] at p pn
    split at pn
    · rename_i i; cases q; exact ⟨i, rfl, p _ rfl F' H' g⟩
    · exact (pn rfl).elim
def cSl (f : VEnv → Rs RV) (l h : VEnv → Rs (Option Int)) : VEnv → Rs RV := fun env => (f env).bind fun r => (l env).bind fun lo => (h env).bind fun hi => gSl r lo hi
theorem ve_sl {lo hi : Option Expr} {p2 : Pos} {l h : VEnv → Rs (Option Int)} (he : VE ca W X e fa) (hl : VO ca W X lo l) (hh : VO ca W X hi h) : VE ca W X (.Subscript e (.Slice lo hi none p2) pos) (cSl fa l h) := by
  obtain ⟨t, pe, se⟩ := he
  obtain ⟨tl, pl, sl⟩ := hl
  obtain ⟨th, ph, sh⟩ := hh
  refine ⟨_, pe_slice sl_all pe pl ph, fun B F env σ H Q st p => ?_⟩
  show t σ H fun x H1 => tl σ H1 fun l H2 => th σ H2 fun u H3 => rSlAll X.K x l u H3 Q
  refine seqE (PostE X.K ca W σ F H Q) se st p (fun _ _ h => h) (fun h => h) fun r F1 H1 v p1 g1 q1 => ?_
  refine sl B F1 env σ H1 _ (st.grow g1) (fun o eo F2 H2 g2 => ?_) (fun c fs ex => ?_) (fun en => ?_)
  · rw [eo] at p1
    simp only [Rs.bind_ok] at p1
    refine sh B F2 env σ H2 _ ((st.grow g1).grow g2) (fun u eu F3 H3 g3 => ?_) (fun c fs ex => ?_) (fun en => ?_)
    · rw [eu] at p1
      exact s_sl ((g1.trans g2).trans g3) ((q1.grow g2).grow g3) p1
    · rw [ex] at p1; exact PostX.mono (g1.trans g2) p1
    · rw [en] at p1; exact p1
  · rw [ex] at p1; exact PostX.mono g1 p1
  · rw [en] at p1; exact p1
def gRev (r : RV) : Rs RV := (rsO r.qv).bind fun xs => .ok (.ol xs.reverse)
theorem ve_rev {k : Nat} {p1 p2 p3 : Pos} (he : VE ca W X e fa) : VE ca W X (.Subscript e (.Slice none none (some (.UnaryOp .USub (.Constant (.int 1) k p1) p2)) p3) pos) (c1 gRev fa) := by
  obtain ⟨t, pe, se⟩ := he
  refine ⟨_, pe_revL pe, fun B F env σ H Q st p => ?_⟩
  show t σ H fun x H1 => ∃ a xs, x = .ref a ∧ SqL X.K H1 a xs ∧ ∀ p, H1 p = none → Q (.ref p) (upd H1 p (.lst xs.reverse))
  refine seqE (PostE X.K ca W σ F H Q) se st p (fun _ _ h => h) (fun h => h) fun r F1 H1 v p1 g1 q1 => ?_
  unfold gRev at p1
  cases e1 : r.qv with
  | none => rw [e1] at p1; exact p1.elim
  | some xs =>
    rw [e1] at p1
    obtain ⟨q, ws, rfl, hq, dq⟩ := qv_ok g1.cfg.sub q1 e1
    refine ⟨q, ws, rfl, hq, fun l hl => ?_⟩
    have g2 := Grow.newO g1.cfg (.lst ws.reverse) hl (fun _ z => by cases z)
    exact p1 _ _ _ (g1.trans g2) ⟨l, _, rfl, same_none g1.hh hl, same_none g1.cfg.sub hl, upd_same, dq.rev⟩
/-! ### isinstance(e, T), T a built-in class -/
def tyD : PyData → Option String
  | .none => some "NoneType"
  | .bool _ => some "bool"
  | .int _ => some "int"
  | .str _ => some "str"
  | .list _ => some "list"
  | .tuple _ => some "tuple"
  | .dict _ => none
def gIsi (T : String) (r : RV) : Rs RV := (rsO (r.data.bind tyD)).bind fun t => (rsO (kitB t T)).bind okB
theorem ty_ok {K : PySem.W.Frag} {H0 F H : Hp} {v : V} {r : RV} {t : String} (s : Same F H) (h : RVok K H0 F H v r) (e : r.data.bind tyD = some t) : TyX K H v (.type t) := by
  have lst : ∀ p vs, SqL K H p vs → TyX K H (.ref p) (.type "list") := fun p vs h => by
    rcases h with (h | ⟨o, h⟩) | ⟨o, its, n, hk, hc, _⟩
    · exact .base (.lst h)
    · exact .base (.frz h)
    · exact .kList hk hc
  have tup : ∀ p vs, SqT K H p vs → TyX K H (.ref p) (.type "tuple") := fun p vs h => by
    rcases h with (h | ⟨o, h⟩) | ⟨o, its, n, hk, hc, _⟩
    · exact .base (.tup h)
    · exact .fTuple h
    · exact .kTuple hk hc
  cases r with
  | d x =>
    cases x with
    | none => cases e; cases h; exact .base .non
    | bool b => cases e; cases h; exact .base (.bl _)
    | int b => cases e; cases h; exact .base (.int _)
    | str b => cases e; cases h; exact .base (.str _)
    | list xs => cases e; cases h with
      | lst h1 h2 => exact lst _ _ (SqL.of (s _ _ h1))
    | tuple xs => cases e; cases h with
      | tup h1 h2 => exact tup _ _ (same_seqT s h1)
    | dict kvs => cases e
  | ol xs => cases e; obtain ⟨p, vs, rfl, _, _, hp, _⟩ := h; exact lst _ _ (SqL.of hp)
  | bl xs => cases e; obtain ⟨p, vs, rfl, hp, _⟩ := h; exact lst _ _ (SqL.of hp)
  | sc ns => cases e; obtain ⟨p, rfl, hp⟩ := h; exact lst _ _ (s.seq hp)
  | _ => cases e
theorem ve_isi {T : Str} {T' : String} {p p2 : Pos} (hg : Gl X "isinstance") (hm : X.mg "isinstance" = none) (hg2 : Gl X T) (hm2 : X.mg T = none) (hv : bootBuiltins T = some (.type T')) (he : VE ca W X e fa) (hn2 : T ≠ "__name__" := by decide) (hd2 : (T == ("__debug__" : Str)) = false := by decide)
    (hs : starEach [e, .Name T p2] X.env = (false, eval e X.env) :: starEach [.Name T p2] X.env := by rfl) (hs2 : starEach [.Name T p2] X.env = (false, eval (.Name T p2) X.env) :: starEach [] X.env := by rfl) (hpl : (backTo pos (starEach [.Name T p2] X.env)).any (·.1) = false := by rfl) :
    VE ca W X (.Call (.Name "isinstance" p) [e, .Name T p2] [] pos) (c1 (gIsi T') fa) := by
  obtain ⟨t, pe, se⟩ := he
  refine ⟨_, pe_callB call_isi hg hm (by decide +kernel) (pa_cons pe (pa_cons (pe_bltn (v := .ty T') hg2 hm2 hv rfl hn2 hd2) pa_nil hs2) hs) (by decide) (by decide) hs hpl, fun B F env σ H Q st q => ?_⟩
  show t σ H fun x H1 => rIsi X.K [x, .ty T'] H1 Q
  refine seqE (PostE X.K ca W σ F H Q) se st q (fun _ _ h => h) (fun h => h) fun r F1 H1 v p1 g1 q1 => ?_
  unfold gIsi at p1
  cases e1 : r.data.bind tyD with
  | none => rw [e1] at p1; exact p1.elim
  | some ty =>
    rw [e1] at p1
    simp only [rsO_some, Rs.bind_ok] at p1
    cases e2 : kitB ty T' with
    | none => rw [e2] at p1; exact p1.elim
    | some k => rw [e2] at p1; exact ⟨v, .ty T', .type ty, .type T', k, rfl, .ty T', ty_ok g1.cfg.sub q1 e1, kit_ty e2, p1 F1 H1 _ g1 (.bl _)⟩
/-! ### range with a step of -1 -/
def gR3 : List RV → Rs (List PyData)
  | [.d (.int i), .d (.int j), .d (.int c)] => if c = -1 ∧ i.natAbs ≤ 1000000 ∧ j.natAbs ≤ 1000000 then .ok ((List.range (i - j).toNat).map fun k : Nat => .int (i - (k : Int))) else .no
  | _ => .no
theorem jw_rngc {G : Hp} (lo : Int) (n : Nat) : JWalk (Itc lo (-1) n) G ((List.range n).map fun i : Nat => V.int (lo - (i : Int))) where
  go := fun i H s hi => by
    have hi' : i < n := by simpa using hi
    exact hi'
  yld := fun i H x H' s y hi => by
    have hi' : i < n := by simpa using hi
    refine ⟨y.1, ?_⟩
    rw [y.2, List.getElem?_map, List.getElem?_range hi']
    show some (V.int (lo - (i : Int))) = some (V.int (lo + (i : Int) * -1))
    congr 2
    omega
  stop := fun H s => by show n ≤ _; simp
theorem vi_range3 {c tg : Expr} {p pos : Pos} {f : VEnv → Rs (List RV)} (hg : Gl X "range") (hm : X.mg "range" = none) (ha : VA ca W X [a, b, c] f)
    (hs : starEach [a, b, c] X.env = (false, eval a X.env) :: starEach [b, c] X.env := by rfl) (hpl : (backTo pos (starEach [b, c] X.env)).any (·.1) = false := by rfl) : VI ca W X tg (.Call (.Name "range" p) [a, b, c] [] pos) (iR gR3 f) := by
  obtain ⟨t, pa, sa⟩ := ha
  refine ⟨_, pi_range3 hg hm pa hs hpl, fun B F env σ H R st q => ?_⟩
  show t σ H fun vs H1 => ∃ (i j c : Int) (n : Nat), vs = [.int i, .int j, .int c] ∧ RgC i j c n ∧ R (Itc i c n) H1
  refine seqA (PostI X.K ca W σ F H R) sa st q (fun _ _ h => h) (fun h => h) fun rs F1 H1 vs p1 g1 q1 => ?_
  unfold gR3 at p1
  split at p1
  · rename_i i j c
    split at p1
    · rename_i hj
      cases q1 with
      | cons h1 h2 =>
        cases h2 with
        | cons h3 h4 =>
          cases h4 with
          | cons h5 h6 =>
            cases h6
            cases h1; cases h3; cases h5
            obtain ⟨rfl, k1, k2⟩ := hj
            refine ⟨i, j, -1, _, rfl, RgC.neg (by omega) (by omega) (by omega) (by omega), p1 _ F1 H1 _ g1 ?_ (jw_rngc i _)⟩
            have := DqA.of_ints (K := X.K) (F := F1) ((List.range (i - j).toNat).map fun k : Nat => i - (k : Int))
            rw [List.map_map, List.map_map] at this
            exact this
    · exact p1.elim
  · exact p1.elim
end
end VL

namespace VL
open PySem PySem.Spec PyProof.Rows L2

/-! ## writes to a list of one's own -/
section
variable {K : PySem.W.Frag} {ca : Nat → Addr} {W : WX} {B : Base} {F H : Hp} {env : VEnv} {σ : L2.St}
theorem own_xd {K : PySem.W.Frag} {H0 F H : Hp} {p : Addr} {r : RV} {xs : List (Str × V)} (o : r.own = true) (h : RVok K H0 F H (.ref p) r) (hx : H p = some (.xd xs)) : False := by
  cases r with
  | ol ys => obtain ⟨a, ws, z, _, _, h2, _⟩ := h; cases z; rw [hx] at h2; cases h2
  | od ys => obtain ⟨a, ws, z, _, _, h2, _⟩ := h; cases z; rw [hx] at h2; cases h2
  | ot ys =>
    obtain ⟨a, ws, z, _, _, h2, _⟩ := h; cases z; rw [hx] at h2
    have h3 := Option.some.inj h2
    have h4 : HO.xd xs = HO.ext _ := h3
    cases h4
  | _ => cases o
theorem StOk.ownAt (st : StOk K B F env σ H) {i : Nat} {xs : List PyData} (e : env[i]? = some (some (.ol xs))) : ∃ p vs, σ[i]? = some (some (.ref p)) ∧ B.H p = none ∧ F p = none ∧ H p = some (.lst vs) ∧ DqA K F vs xs := by
  obtain ⟨v, e1, p, vs, rfl, q⟩ := st.sl i _ e
  exact ⟨p, vs, e1, q⟩
theorem StOk.write (st : StOk K B F env σ H) {i : Nat} {r0 r1 : RV} {p : Addr} {o o' : HO} (e : env[i]? = some (some r0)) (ow : r0.own = true) (es : σ[i]? = some (some (.ref p))) (hp : H p = some o) (n0 : B.H p = none) (f0 : F p = none) (nt : ∀ xs, o' ≠ .tup xs)
    (ok : RVok K B.H F (upd H p o') (.ref p) r1) (ob : r1.isB = false) : StOk K B F (env.set i (some r1)) σ (upd H p o') := by
  have hi : i < env.length := (List.getElem?_eq_some_iff.mp e).1
  refine ⟨st.gr.write n0 f0 hp nt, by simpa using st.len, fun j r ej => ?_, fun j r a ej o z => ?_, fun j k r r' a jk e1 e2 o1 o2 z1 z2 => ?_⟩
  · by_cases h : i = j
    · subst h
      rw [List.getElem?_set_self hi] at ej
      cases ej
      exact ⟨_, es, ok⟩
    · rw [List.getElem?_set_ne h] at ej
      obtain ⟨w, ew, q⟩ := st.sl j r ej
      refine ⟨w, ew, ?_⟩
      have ne : ∀ a, r.own = true → w = .ref a → a ≠ p := fun a o z y => by
        subst y; subst z
        exact st.dis i j r0 r a h e ej ow o es ew
      have nb : ∀ a, r.isB = true → w = .ref a → a ≠ p := fun a o z y => by
        subst y; subst z
        obtain ⟨ob, hb⟩ := st.bo j r a ej o ew
        rw [n0] at hb; cases hb
      cases r with
      | d x => exact q
      | ol ys => obtain ⟨a, ws, z, n, f2, h2, q4⟩ := q; exact ⟨a, ws, z, n, f2, by rw [upd_ne (ne a rfl z)]; exact h2, q4⟩
      | od ys => obtain ⟨a, ws, z, n, f2, h2, q4⟩ := q; exact ⟨a, ws, z, n, f2, by rw [upd_ne (ne a rfl z)]; exact h2, q4⟩
      | ot ys => obtain ⟨a, ws, z, n, f2, h2, q4⟩ := q; exact ⟨a, ws, z, n, f2, by rw [upd_ne (ne a rfl z)]; exact h2, q4⟩
      | sc ns => exact q
      | bl ys => obtain ⟨a, ws, z, h2, q4⟩ := q; exact ⟨a, ws, z, by rw [upd_ne (nb a rfl z)]; exact h2, q4⟩
      | bd ys => obtain ⟨a, ws, z, h2, q4⟩ := q; exact ⟨a, ws, z, by rw [upd_ne (nb a rfl z)]; exact h2, q4⟩
      | bt ys => obtain ⟨a, ws, z, h2, q4⟩ := q; exact ⟨a, ws, z, by rw [upd_ne (nb a rfl z)]; exact h2, q4⟩
      | xo a dd c fs =>
        obtain ⟨z, ws, h2, q4⟩ := q
        have hne : dd ≠ p := fun y => by
          subst y
          obtain ⟨v0, ev0, q0⟩ := st.sl i r0 e
          rw [es] at ev0
          cases ev0
          exact own_xd ow q0 h2
        exact ⟨z, ws, by rw [upd_ne hne]; exact h2, q4⟩
  · by_cases h : i = j
    · subst h
      rw [List.getElem?_set_self hi] at ej
      cases ej
      rw [ob] at o; cases o
    · rw [List.getElem?_set_ne h] at ej
      exact st.bo j r a ej o z
  · have own : ∀ (j : Nat) (r : RV), (env.set i (some r1))[j]? = some (some r) → r.own = true → ∃ r', env[j]? = some (some r') ∧ r'.own = true := fun j r ej o => by
      by_cases h : i = j
      · subst h; exact ⟨r0, e, ow⟩
      · rw [List.getElem?_set_ne h] at ej; exact ⟨r, ej, o⟩
    obtain ⟨s1, f1, g1⟩ := own j r e1 o1
    obtain ⟨s2, f2, g2⟩ := own k r' e2 o2
    exact st.dis j k s1 s2 a jk f1 f2 g1 g2 z1 z2
end
section
variable {ca : Nat → Addr} {W : WX} {X : Cx} {a b e : Expr} {es : List Expr} {fa fb : VEnv → Rs RV} {pos : Pos}
/-- xs.append(e), xs a list of the def's own -/
def sApp (i : Nat) (fe : VEnv → Rs RV) : VEnv → Out := fun env => match env[i]? with
  | some (some (.ol xs)) => (fe env).out env fun r => match r.toD with
    | some d => if xs.length ≤ 1000000 then .nx (env.set i (some (.ol (xs ++ [d])))) else .no
    | none => .no
  | _ => .no
theorem vs_app (i : Nat) {x : Str} {p1 p2 p3 : Pos} (he : VE ca W X e fa) (hN : X.N[i]? = some x := by rfl) (hv : Vis X.env.scope x := by first | exact Or.inl rfl | exact Or.inr (Or.inl rfl) | exact Or.inr (Or.inr rfl)) (hd : (x == ("__debug__" : Str)) = false := by decide) (hcd : (x == ("__classdict__" : Str)) = false := by decide)
    (hbase : attributeBase (.Name x p1) "append" X.env (eval (.Name x p1) X.env) = eval (.Name x p1) X.env := by rfl)
    (hfew : ((backTo p3 (starEach (e :: []) X.env)).all (fun x => !x.1) && (backToKw p3 (keywordEach [] X.env)).all (fun x => x.1.isSome)
      && decide ((e :: []).length + ([] : List Keyword).length + (if ([] : List Keyword).isEmpty then 0 else 1) < 30)) = true := by rfl)
    (hline : (p2.endLine == p3.line) = true := by rfl) (hs : starEach (e :: []) X.env = (false, eval e X.env) :: starEach [] X.env := by rfl) (hplain : (backTo p3 (starEach [] X.env)).any (·.1) = false := by rfl)
    (hsw : swapsWith (.Call (.Attribute (.Name x p1) "append" p2) [e] [] p3) none pos.line X.env = pure false := by rfl) :
    VS ca W X (.Expr (.Call (.Attribute (.Name x p1) "append" p2) [e] [] p3) pos) (sApp i fa) := by
  obtain ⟨t, pe, se⟩ := he
  refine ⟨_, ps_expr (pe_bm PySem.F.plainAttrs_list PySem.F.slot_list_append PySem.F.type_list_append mt_append (pe_var hN hv hd hcd) (pa_cons pe pa_nil hs) hbase hfew hline hs hplain) hsw, fun B F env σ H D st p => ?_⟩
  show ∃ v, σ[i]? = some (some v) ∧ (tyV X.K "list" v H ∧ t σ H fun y H1 => rAppend v [y] H1 fun _ H2 => D.nx σ H2)
  unfold sApp at p
  split at p
  · rename_i xs e1
    obtain ⟨a, vs, s1, n0, f0, hp, q⟩ := st.ownAt e1
    refine ⟨.ref a, s1, .inl ⟨rfl, vs, SqL.of hp⟩, ?_⟩
    refine outE se st p fun r F1 H1 v p1 g q1 => ?_
    cases e2 : r.toD with
    | none => rw [e2] at p1; exact p1.elim
    | some d =>
      rw [e2] at p1
      simp only at p1
      split at p1
      · rename_i hz
        obtain ⟨F2, g2, s2, q2⟩ := frz g (Fz.of q1 e2)
        have st2 := st.grow g2
        have hp2 := g2.hh _ _ hp
        have f2 := g2.stillFree f0 hp
        have q3 : DqA X.K F2 (vs ++ [v]) (xs ++ [d]) := (DqA.mono g2.ff _ _ q).append (.cons q2 .nil)
        refine ⟨a, vs, v, rfl, rfl, hp2, by rw [q.length]; exact million hz, ?_⟩
        exact p1 F2 σ _ s2 (st2.write (r1 := .ol (xs ++ [d])) e1 rfl s1 hp2 n0 f2 (fun _ z => by cases z) ⟨a, _, rfl, n0, f2, upd_same, q3⟩ rfl)
      · exact p1.elim
  · exact p.elim
/-- xs.pop() as a statement -/
def sPop (i : Nat) : VEnv → Out := fun env => match env[i]? with
  | some (some (.ol xs)) => if xs = [] then .no else .nx (env.set i (some (.ol xs.dropLast)))
  | _ => .no
/-- xs[i] = e -/
def sStore (i : Nat) (fi fe : VEnv → Rs RV) : VEnv → Out := fun env => match env[i]? with
  | some (some (.ol xs)) => (fe env).out env fun r => (fi env).out env fun ix => match r.toD, ix with
    | some d, .d (.int k) => (match ixN xs.length k with
      | some j => .nx (env.set i (some (.ol (xs.set j d))))
      | none => .no)
    | _, _ => .no
  | _ => .no
theorem vs_store (i : Nat) {x : Str} {ie : Expr} {p1 p2 : Pos} {fi : VEnv → Rs RV} (he : VE ca W X e fa) (hi : VE ca W X ie fi) (hN : X.N[i]? = some x := by rfl) (hv : Vis X.env.scope x := by first | exact Or.inl rfl | exact Or.inr (Or.inl rfl) | exact Or.inr (Or.inr rfl)) (hd : (x == ("__debug__" : Str)) = false := by decide) (hcd : (x == ("__classdict__" : Str)) = false := by decide)
    (ha : ∀ v, assign (.Subscript (.Name x p1) ie p2) X.env v = (do
      let ov ← holding [v] (eval (.Name x p1) X.env)
      let iv ← holding [v, ov] (eval ie X.env)
      standAt p2
      holding [v, ov, iv] (setItem ov iv v)
      release [v, ov, iv] []) := by intro _; rfl)
    (hs : swapsWithSole [.Subscript (.Name x p1) ie p2] e pos.line X.env = pure false := by rfl) (hw : swappedStores [.Subscript (.Name x p1) ie p2] e X.env = pure none := by rfl)
    (h1 : (assignEach [.Subscript (.Name x p1) ie p2] X.env).map (·.2) = [assign (.Subscript (.Name x p1) ie p2) X.env] := by rfl) :
    VS ca W X (.Assign [.Subscript (.Name x p1) ie p2] e pos) (sStore i fi fa) := by
  obtain ⟨t, pe, se⟩ := he
  obtain ⟨ti, pi, si⟩ := hi
  refine ⟨_, ps_asg pe (pg_sub (pe_var hN hv hd hcd) pi set_list ha) hs hw h1, fun B F env σ H D st p => ?_⟩
  show t σ H fun v H1 => ∃ o, σ[i]? = some (some o) ∧ ti σ H1 fun iv H3 => rSetL o iv v H3 fun H4 => D.nx σ H4
  unfold sStore at p
  split at p
  · rename_i xs e1
    obtain ⟨a, vs, s1, n0, f0, hp, q⟩ := st.ownAt e1
    refine outE se st p fun r F1 H1 v p1 g q1 => ⟨_, s1, ?_⟩
    refine outE si (st.grow g) p1 fun ix F2 H2 w p2 g2 q2 => ?_
    cases e2 : r.toD with
    | none => rw [e2] at p2; exact p2.elim
    | some d =>
      rw [e2] at p2
      cases ix with
      | d y =>
        cases y with
        | int k =>
          simp only at p2
          cases e3 : ixN xs.length k with
          | none => rw [e3] at p2; exact p2.elim
          | some j =>
            rw [e3] at p2
            cases q2
            obtain ⟨F3, g3, s3, q3⟩ := frz (g.trans g2) (Fz.of (q1.grow g2) e2)
            have hp3 := g3.hh _ _ hp
            have f3 := g3.stillFree f0 hp
            refine ⟨a, vs, k, j, rfl, rfl, hp3, by rw [q.length]; exact e3, ?_⟩
            exact p2 F3 σ _ s3 ((st.grow g3).write (r1 := .ol (xs.set j d)) e1 rfl s1 hp3 n0 f3 (fun _ z => by cases z) ⟨a, _, rfl, n0, f3, upd_same, DqA.set q3 j (DqA.mono g3.ff _ _ q)⟩ rfl)
        | _ => exact p2.elim
      | _ => exact p2.elim
  · exact p.elim
/-- x += e, ints -/
def sAug (i : Nat) (g : RV → RV → Rs RV) (fe : VEnv → Rs RV) : VEnv → Out := fun env => match env[i]? with
  | some (some r0) => (fe env).out env fun r => (g r0.bor r).out env fun z => putS i z env
  | _ => .no
theorem vs_augI {i : Nat} {x : Str} {pos' : Pos} (hN : X.N.Nodup) (hi : X.N[i]? = some x) (hx : Loc X.env.scope x) (he : VE ca W X e fa) (hf : X.fn x = true ∨ X.env.scope.names.lookup x = some .local := by first | exact .inl rfl | exact .inr rfl | assumption) :
    VS ca W X (.AugAssign (.Name x pos') .Add e pos) (sAug i (RV.i2 fun i j => okI (i + j)) fa) := by
  obtain ⟨t, pe, se⟩ := he
  refine ⟨_, ps_aug hN hi hx pe ip_add hf, fun B F env σ H D st p => ?_⟩
  show ∃ x, σ[i]? = some (some x) ∧ t σ H fun y H1 => ∃ k l, x = .int k ∧ y = .int l ∧ D.nx (σ.set i (some (.int (k + l)))) H1
  unfold sAug at p
  split at p
  · rename_i r0 e1
    obtain ⟨v, e2, q0⟩ := st.sl i r0 e1
    refine ⟨v, e2, ?_⟩
    refine outE se st p fun r F1 H1 w p1 g q1 => ?_
    cases r0 with
    | d x0 => cases x0 with
      | int k => cases r with
        | d y => cases y with
          | int l =>
            cases q0; cases q1
            exact ⟨k, l, rfl, rfl, snd_put (r := .d (.int (k + l))) st g (.int _) p1⟩
          | _ => exact p1.elim
        | _ => exact p1.elim
      | _ => cases r <;> exact p1.elim
    | _ => exact p1.elim
  · exact p.elim
end

/-! ## the law's end -/
def spTrue (K : PySem.W.Frag) : Sp := fun vs H Q _ => ∃ (a : Addr) (ns : List Int), vs = [.ref a] ∧ SqL K H a (ns.map V.int) ∧ ns.length ≤ 63 ∧ ∀ H', Q (.bl true) H'
theorem law_true {K : PySem.W.Frag} {ca : Nat → Addr} {G : List RV → Rs RV} (h : ∀ ns : List Int, ns.length ≤ 63 → G [.sc ns] = .ok (.d (.bool true))) (vs : List V) (H : Hp) (Q : VK) (E : XK) (s : spTrue K vs H Q E) : spV K ca 1 G vs H Q E := by
  obtain ⟨a, ns, rfl, hS, hl, q⟩ := s
  refine ⟨rfl, H, [.sc ns], ⟨Same.refl _, fun _ _ e => e⟩, .cons ⟨a, rfl, hS⟩ .nil, ?_⟩
  rw [h ns hl]
  intro G' H' v g r
  cases r
  exact q H'
end VL

namespace VL
open PySem PySem.Spec PyProof.Rows L2

/-! ## reckoning with semantic functions -/
@[simp] theorem fin_nx (e) : (Out.nx e).fin = .ok (.d .none) := rfl
@[simp] theorem fin_rt (r) : (Out.rt r).fin = .ok r := rfl
@[simp] theorem fin_ex (c fs e) : (Out.ex c fs e).fin = .ex c fs := rfl
@[simp] theorem fin_no : Out.no.fin = .no := rfl
/-- a turn's end in a loop -/
def Out.lp : Out → (VEnv → Out) → Out
  | .nx e, k => k e
  | .ct e, k => k e
  | .bk e, _ => .nx e
  | o, _ => o
@[simp] theorem lp_nx (e k) : (Out.nx e).lp k = k e := rfl
@[simp] theorem lp_ct (e k) : (Out.ct e).lp k = k e := rfl
@[simp] theorem lp_bk (e k) : (Out.bk e).lp k = .nx e := rfl
@[simp] theorem lp_rt (r k) : (Out.rt r).lp k = .rt r := rfl
@[simp] theorem lp_ex (c fs e k) : (Out.ex c fs e).lp k = .ex c fs e := rfl
@[simp] theorem lp_no (k) : Out.no.lp k = .no := rfl
@[simp] theorem loopF_nil (tg f env) : loopF tg f [] env = .nx env := rfl
theorem loopF_cons (tg f x xs env) : loopF tg f (x :: xs) env = match tgE tg x env with
  | none => .no
  | some e1 => (f e1).lp (loopF tg f xs) := by
  unfold loopF
  cases tgE tg x env with
  | none => rfl
  | some e1 => cases h : f e1 <;> simp [h, Out.lp]
theorem loopW_succ (c f n env) : loopW c f (n + 1) env = (c env).out env fun b => if b = true then (f env).lp (loopW c f n) else .nx env := by
  unfold loopW
  cases c env with
  | ok b => cases b with
    | false => rfl
    | true => simp only [Rs.out_ok, if_true]; cases h : f env <;> simp [h, Out.lp]
  | ex c fs => rfl
  | no => rfl
/-- a loop by a relation of what it carries; i: the turns so far -/
theorem loopF_go {α β : Type} {tg : Tg} {f : VEnv → Out} (R : Nat → α → VEnv → Prop) (emb : β → PyData) (step : α → β → α) : ∀ (xs : List β) (j : Nat) (s : α) (env : VEnv),
    (∀ i s env x, xs[i]? = some x → R (j + i) s env → ∃ e1, tgE tg (emb x) env = some e1 ∧ ∃ env', (f e1 = .nx env' ∨ f e1 = .ct env') ∧ R (j + i + 1) (step s x) env') → R j s env → ∃ env', loopF tg f (xs.map emb) env = .nx env' ∧ R (j + xs.length) (xs.foldl step s) env'
  | [], j, s, env, _, h => ⟨env, rfl, h⟩
  | x :: xs, j, s, env, hs, h => by
    obtain ⟨e1, t1, env', fe, r⟩ := hs 0 s env x rfl h
    obtain ⟨env2, l2, r2⟩ := loopF_go R emb step xs (j + 1) (step s x) env' (fun i s env y hy => by
      have := hs (i + 1) s env y (by simpa using hy)
      rw [show j + (i + 1) = j + 1 + i by omega] at this
      exact this) r
    refine ⟨env2, ?_, ?_⟩
    · rw [List.map_cons, loopF_cons, t1]
      rcases fe with fe | fe <;> simp only [fe, Out.lp] <;> exact l2
    · rw [List.length_cons, show j + (xs.length + 1) = j + 1 + xs.length by omega]; exact r2
theorem loopF_rel {α β : Type} {tg : Tg} {f : VEnv → Out} (R : Nat → α → VEnv → Prop) (emb : β → PyData) (step : α → β → α) (xs : List β) (s : α) (env : VEnv)
    (h : ∀ i s env x, xs[i]? = some x → R i s env → ∃ e1, tgE tg (emb x) env = some e1 ∧ ∃ env', (f e1 = .nx env' ∨ f e1 = .ct env') ∧ R (i + 1) (step s x) env') (h0 : R 0 s env) : ∃ env', loopF tg f (xs.map emb) env = .nx env' ∧ R xs.length (xs.foldl step s) env' := by
  have := loopF_go R emb step xs 0 s env (fun i s env x hx r => by rw [Nat.zero_add] at r ⊢; exact h i s env x hx r) h0
  rw [Nat.zero_add] at this
  exact this
/-- .. with a return on the way -/
def foldU {α β γ : Type} (step : α → β → Sum α γ) : List β → α → Sum α γ
  | [], s => .inl s
  | x :: xs, s => match step s x with
    | .inl s' => foldU step xs s'
    | .inr r => .inr r
theorem loopF_retgo {α β : Type} {tg : Tg} {f : VEnv → Out} (R : Nat → α → VEnv → Prop) (emb : β → PyData) (step : α → β → Sum α RV) : ∀ (xs : List β) (j : Nat) (s : α) (env : VEnv),
    (∀ i s env x, xs[i]? = some x → R (j + i) s env → ∃ e1, tgE tg (emb x) env = some e1 ∧ match step s x with
      | .inl s' => ∃ env', (f e1 = .nx env' ∨ f e1 = .ct env') ∧ R (j + i + 1) s' env'
      | .inr r => f e1 = .rt r) → R j s env → match foldU step xs s with
      | .inl s' => ∃ env', loopF tg f (xs.map emb) env = .nx env' ∧ R (j + xs.length) s' env'
      | .inr r => loopF tg f (xs.map emb) env = .rt r
  | [], j, s, env, _, h => ⟨env, rfl, h⟩
  | x :: xs, j, s, env, hs, h => by
    obtain ⟨e1, t1, q⟩ := hs 0 s env x rfl h
    have e0 : loopF tg f ((x :: xs).map emb) env = (f e1).lp (loopF tg f (xs.map emb)) := by rw [List.map_cons, loopF_cons, t1]
    rw [e0]
    unfold foldU
    cases hst : step s x with
    | inr r => rw [hst] at q; simp only at q ⊢; rw [q]; rfl
    | inl s' =>
      rw [hst] at q
      simp only at q ⊢
      obtain ⟨env', fe, r⟩ := q
      have e2 : (f e1).lp (loopF tg f (xs.map emb)) = loopF tg f (xs.map emb) env' := by rcases fe with fe | fe <;> rw [fe] <;> rfl
      rw [e2, List.length_cons, show j + (xs.length + 1) = j + 1 + xs.length by omega]
      exact loopF_retgo R emb step xs (j + 1) s' env' (fun i s env y hy => by
        have := hs (i + 1) s env y (by simpa using hy)
        rw [show j + (i + 1) = j + 1 + i by omega] at this
        exact this) r
theorem loopF_ret {α β : Type} {tg : Tg} {f : VEnv → Out} (R : Nat → α → VEnv → Prop) (emb : β → PyData) (step : α → β → Sum α RV) (xs : List β) (s : α) (env : VEnv)
    (h : ∀ i s env x, xs[i]? = some x → R i s env → ∃ e1, tgE tg (emb x) env = some e1 ∧ match step s x with
      | .inl s' => ∃ env', (f e1 = .nx env' ∨ f e1 = .ct env') ∧ R (i + 1) s' env'
      | .inr r => f e1 = .rt r) (h0 : R 0 s env) : match foldU step xs s with
      | .inl s' => ∃ env', loopF tg f (xs.map emb) env = .nx env' ∧ R xs.length s' env'
      | .inr r => loopF tg f (xs.map emb) env = .rt r := by
  have := loopF_retgo R emb step xs 0 s env (fun i s env x hx r => by rw [Nat.zero_add] at r ⊢; exact h i s env x hx r) h0
  rw [Nat.zero_add] at this
  exact this
@[simp] theorem lcF_nil (tg t fe env) : lcF tg t fe env [] = .ok [] := rfl
/-- a comprehension -/
theorem lcF_map {β : Type} {tg : Tg} {t : VEnv → Rs Bool} {fe : VEnv → Rs RV} {env : VEnv} (emb : β → PyData) (p : β → Bool) (g : β → PyData) : ∀ (xs : List β),
    (∀ x ∈ xs, ∃ e1, tgE tg (emb x) env = some e1 ∧ t e1 = .ok (p x) ∧ (p x = true → ∃ r, fe e1 = .ok r ∧ r.toD = some (g x))) → lcF tg t fe env (xs.map emb) = .ok ((xs.filter p).map g)
  | [], _ => rfl
  | x :: xs, h => by
    obtain ⟨e1, t1, c1, f1⟩ := h x List.mem_cons_self
    have ih := lcF_map (tg := tg) (t := t) (fe := fe) (env := env) emb p g xs fun y hy => h y (List.mem_cons_of_mem _ hy)
    rw [List.map_cons]
    unfold lcF
    rw [t1]
    simp only
    rw [c1]
    cases hp : p x with
    | false => simp only; rw [ih, List.filter_cons_of_neg (by simp [hp])]
    | true =>
      obtain ⟨r, f2, f3⟩ := f1 hp
      simp only
      rw [f2]
      simp only
      rw [f3]
      simp only
      rw [ih, List.filter_cons_of_pos hp]
      rfl
end VL

namespace VL
open PySem PySem.Spec PyProof.Rows L2
section
variable (f g : VEnv → Out) (fa fb : VEnv → Rs RV) (fA : VEnv → Rs (List RV)) (tb tc : VEnv → Rs Bool) (env : VEnv) (i j : Nat) (x y : PyData) (xs ys : List PyData)
@[simp] theorem e_nil : sNil env = .nx env := rfl
@[simp] theorem e_seq : sSeq f g env = (f env).then g := rfl
@[simp] theorem e_fz : sFz i f env = f (fzE i env) := rfl
@[simp] theorem e_bk : sBk env = .bk env := rfl
@[simp] theorem e_ct : sCt env = .ct env := rfl
@[simp] theorem e_ret : sRet fa env = (fa env).out env fun r => (r.nb).out env .rt := rfl
@[simp] theorem e_retN : sRetN env = .rt (.d .none) := rfl
@[simp] theorem e_drop : sDrop fa env = (fa env).out env fun _ => .nx env := rfl
@[simp] theorem e_set : sSet i fa env = (fa env).out env fun r => putS i r env := rfl
@[simp] theorem e_if : sIf tb f g env = (tb env).out env fun b => if b = true then f env else g env := rfl
@[simp] theorem e_for (tg src) : sFor tg src f env = (src env).out env fun xs => loopF tg f xs env := rfl
@[simp] theorem e_cC : cC x env = .ok (.d x) := rfl
@[simp] theorem e_c2 (h) : c2 h fa fb env = (fa env).bind fun x => (fb env).bind fun y => h x y := rfl
@[simp] theorem e_c1 (h) : c1 h fa env = (fa env).bind h := rfl
@[simp] theorem e_cA (h) : cA h fA env = (fA env).bind h := rfl
@[simp] theorem e_aN : aN env = .ok [] := rfl
@[simp] theorem e_aC : aC fa fA env = (fa env).bind fun x => (fA env).bind fun xs => .ok (x :: xs) := rfl
@[simp] theorem e_cB : cB fa env = (fa env).bind asB := rfl
@[simp] theorem e_asB (b : Bool) : asB (.d (.bool b)) = .ok b := rfl
@[simp] theorem e_bNot : bNot tb env = (tb env).bind fun b => .ok (!b) := rfl
@[simp] theorem e_bAnd : bAnd tb tc env = (tb env).bind fun b => if b = true then tc env else .ok false := rfl
@[simp] theorem e_bOr : bOr tb tc env = (tb env).bind fun b => if b = true then .ok true else tc env := rfl
@[simp] theorem e_vAnd : vAnd fa fb env = (cB fa env).bind fun b => if b = true then fb env else .ok (.d (.bool false)) := rfl
@[simp] theorem e_vOr : vOr fa fb env = (cB fa env).bind fun b => if b = true then .ok (.d (.bool true)) else fb env := rfl
@[simp] theorem e_vNot : vNot fa env = (cB fa env).bind fun b => .ok (.d (.bool (!b))) := rfl
@[simp] theorem e_vIf : vIf tb fa fb env = (tb env).bind fun b => if b = true then fa env else fb env := rfl
@[simp] theorem e_bYes : bYes env = .ok true := rfl
@[simp] theorem e_iL : iL fa env = (fa env).bind gL := rfl
@[simp] theorem e_iT : iT fa env = (fa env).bind gT := rfl
@[simp] theorem e_iLb : iLb fa env = (fa env).bind gLb := rfl
@[simp] theorem e_iR (h) : iR h fA env = (fA env).bind h := rfl
@[simp] theorem e_gL1 : gL (.d (.list xs)) = .ok xs := rfl
@[simp] theorem e_gL2 : gL (.ol xs) = .ok xs := rfl
@[simp] theorem e_gL3 (ns) : gL (.sc ns) = .ok (ns.map .int) := rfl
@[simp] theorem e_gT : gT (.d (.tuple xs)) = .ok xs := rfl
@[simp] theorem e_gLb1 : gLb (.d (.list xs)) = .ok xs := rfl
@[simp] theorem e_gLb2 : gLb (.ol xs) = .ok xs := rfl
@[simp] theorem e_gLb3 : gLb (.bl xs) = .ok xs := rfl
@[simp] theorem e_gLb4 (ns) : gLb (.sc ns) = .ok (ns.map .int) := rfl
@[simp] theorem e_nb1 : (RV.d x).nb = .ok (.d x) := rfl
@[simp] theorem e_nb2 : (RV.ol xs).nb = .ok (.ol xs) := rfl
@[simp] theorem e_bor1 : (RV.d x).bor = .d x := rfl
@[simp] theorem e_bor2 : (RV.ol xs).bor = .bl xs := rfl
@[simp] theorem e_bor3 : (RV.bl xs).bor = .bl xs := rfl
@[simp] theorem e_bor4 (ns) : (RV.sc ns).bor = .sc ns := rfl
@[simp] theorem e_arg1 : (RV.d x).arg = .d x := rfl
@[simp] theorem e_arg2 : (RV.ol xs).arg = .d (.list xs) := rfl
@[simp] theorem e_arg3 : (RV.bl xs).arg = .bl xs := rfl
@[simp] theorem e_arg4 (ns) : (RV.sc ns).arg = .sc ns := rfl
@[simp] theorem e_putd : putS i (.d x) env = if i < env.length then .nx (env.set i (some (.d x))) else .no := rfl
@[simp] theorem e_puto : putS i (.ol xs) env = if i < env.length then .nx (env.set i (some (.ol xs))) else .no := rfl
@[simp] theorem e_toD1 : (RV.d x).toD = some x := rfl
@[simp] theorem e_toD2 : (RV.ol xs).toD = some (.list xs) := rfl
@[simp] theorem e_allD0 : allD [] = some [] := rfl
@[simp] theorem e_allD1 (rs) : allD (.d x :: rs) = (allD rs).map (x :: ·) := by cases h : allD rs <;> simp [allD, h]
@[simp] theorem e_allD2 (rs) : allD (.ol xs :: rs) = (allD rs).map (.list xs :: ·) := by cases h : allD rs <;> simp [allD, h]
@[simp] theorem e_gTupl (rs) : gTupl rs = (rsO (allD rs)).bind fun ds => if ds.length ≤ 1000 then .ok (.d (.tuple ds)) else .no := rfl
@[simp] theorem e_gList (rs) : gList rs = (rsO (allD rs)).bind fun ds => if ds.length ≤ 1000 then .ok (.ol ds) else .no := rfl
@[simp] theorem e_tgnm : tgE (.nm i) x env = if i < env.length then some (env.set i (some (.d x))) else none := rfl
@[simp] theorem e_tgtp (is) : tgE (.tp is) (.tuple xs) env = tgEs is xs env := rfl
@[simp] theorem e_tg0 : tgEs [] [] env = some env := rfl
@[simp] theorem e_tg1 (is) : tgEs (i :: is) (x :: xs) env = if i < env.length then tgEs is xs (env.set i (some (.d x))) else none := rfl
@[simp] theorem e_sq1 : (RV.d (.tuple xs)).sq = some xs := rfl
@[simp] theorem e_sq2 : (RV.d (.list xs)).sq = some xs := rfl
@[simp] theorem e_sq3 : (RV.ol xs).sq = some xs := rfl
@[simp] theorem e_sq4 : (RV.bl xs).sq = some xs := rfl
@[simp] theorem e_sq5 (ns) : (RV.sc ns).sq = some (ns.map .int) := rfl
@[simp] theorem e_qv2 : (RV.d (.list xs)).qv = some xs := rfl
@[simp] theorem e_qv3 : (RV.ol xs).qv = some xs := rfl
@[simp] theorem e_qv4 : (RV.bl xs).qv = some xs := rfl
@[simp] theorem e_qv5 (ns) : (RV.sc ns).qv = some (ns.map .int) := rfl
@[simp] theorem e_data1 : (RV.d x).data = some x := rfl
@[simp] theorem e_data2 : (RV.ol xs).data = some (.list xs) := rfl
@[simp] theorem e_data3 : (RV.bl xs).data = some (.list xs) := rfl
@[simp] theorem e_okI (a : Int) : okI a = .ok (.d (.int a)) := rfl
@[simp] theorem e_okB (a : Bool) : okB a = .ok (.d (.bool a)) := rfl
@[simp] theorem e_i2 (h : Int → Int → Rs RV) (a b : Int) : RV.i2 h (.d (.int a)) (.d (.int b)) = h a b := rfl
@[simp] theorem e_sub (a b : Int) : gSub (.d (.int a)) (.d (.int b)) = .ok (.d (.int (a - b))) := rfl
@[simp] theorem e_mul (a b : Int) : gMul (.d (.int a)) (.d (.int b)) = if a.natAbs < 18446744073709551616 ∨ b.natAbs < 18446744073709551616 then .ok (.d (.int (a * b))) else .no := rfl
@[simp] theorem e_mod (a b : Int) : gMod (.d (.int a)) (.d (.int b)) = if 0 < b then .ok (.d (.int (a % b))) else .no := rfl
@[simp] theorem e_div (a b : Int) : gDiv (.d (.int a)) (.d (.int b)) = if 0 < b ∧ b.natAbs < 1073741824 then .ok (.d (.int (a / b))) else .no := rfl
@[simp] theorem e_pow (a b : Int) : gPow (.d (.int a)) (.d (.int b)) = if 0 ≤ b ∧ b ≤ 1000000 ∧ a.natAbs < 2 ^ 64 then .ok (.d (.int (a ^ b.toNat))) else .no := rfl
@[simp] theorem e_lt (a b : Int) : gLt (.d (.int a)) (.d (.int b)) = .ok (.d (.bool (decide (a < b)))) := rfl
@[simp] theorem e_le (a b : Int) : gLe (.d (.int a)) (.d (.int b)) = .ok (.d (.bool (decide (a ≤ b)))) := rfl
@[simp] theorem e_gt (a b : Int) : gGt (.d (.int a)) (.d (.int b)) = .ok (.d (.bool (decide (b < a)))) := rfl
@[simp] theorem e_ge (a b : Int) : gGe (.d (.int a)) (.d (.int b)) = .ok (.d (.bool (decide (b ≤ a)))) := rfl
@[simp] theorem e_neg (a : Int) : gNeg (.d (.int a)) = .ok (.d (.int (-a))) := rfl
@[simp] theorem e_addI (a b : Int) : gAdd (.d (.int a)) (.d (.int b)) = .ok (.d (.int (a + b))) := rfl
@[simp] theorem e_addS (a b : Str) : gAdd (.d (.str a)) (.d (.str b)) = if a.length + b.length ≤ 1000000 then .ok (.d (.str (a ++ b))) else .no := rfl
@[simp] theorem e_addT : gAdd (.d (.tuple xs)) (.d (.tuple ys)) = if xs.length + ys.length ≤ 1000000 then .ok (.d (.tuple (xs ++ ys))) else .no := rfl
@[simp] theorem e_addL1 : gAdd (.ol xs) (.ol ys) = if xs.length + ys.length ≤ 1000000 then .ok (.ol (xs ++ ys)) else .no := rfl
@[simp] theorem e_addL2 : gAdd (.ol xs) (.bl ys) = if xs.length + ys.length ≤ 1000000 then .ok (.ol (xs ++ ys)) else .no := rfl
@[simp] theorem e_addL3 : gAdd (.bl xs) (.ol ys) = if xs.length + ys.length ≤ 1000000 then .ok (.ol (xs ++ ys)) else .no := rfl
@[simp] theorem e_addL4 : gAdd (.bl xs) (.bl ys) = if xs.length + ys.length ≤ 1000000 then .ok (.ol (xs ++ ys)) else .no := rfl
@[simp] theorem e_addL5 : gAdd (.d (.list xs)) (.ol ys) = if xs.length + ys.length ≤ 1000000 then .ok (.ol (xs ++ ys)) else .no := rfl
@[simp] theorem e_addL6 : gAdd (.d (.list xs)) (.bl ys) = if xs.length + ys.length ≤ 1000000 then .ok (.ol (xs ++ ys)) else .no := rfl
@[simp] theorem e_addL7 : gAdd (.ol xs) (.d (.list ys)) = if xs.length + ys.length ≤ 1000000 then .ok (.ol (xs ++ ys)) else .no := rfl
@[simp] theorem e_addL8 : gAdd (.bl xs) (.d (.list ys)) = if xs.length + ys.length ≤ 1000000 then .ok (.ol (xs ++ ys)) else .no := rfl
@[simp] theorem e_addL9 : gAdd (.d (.list xs)) (.d (.list ys)) = if xs.length + ys.length ≤ 1000000 then .ok (.ol (xs ++ ys)) else .no := rfl
@[simp] theorem e_eq (a b : RV) : gEq a b = (rsO a.data).bind fun x => (rsO b.data).bind fun y => if SeqAt.shaped x = true ∧ SeqAt.shaped y = true then okB (PyData.eqv x y) else .no := rfl
@[simp] theorem e_ne (a b : RV) : gNe a b = (rsO a.data).bind fun x => (rsO b.data).bind fun y => if SeqAt.shaped x = true ∧ SeqAt.shaped y = true then okB (!PyData.eqv x y) else .no := rfl
@[simp] theorem e_in (a b : RV) : gIn a b = (gInB a b).bind okB := rfl
@[simp] theorem e_notIn (a b : RV) : gNotIn a b = (gInB a b).bind fun k => okB (!k) := rfl
@[simp] theorem e_inT (a : Int) : gInB (.d (.int a)) (.d (.tuple xs)) = if SeqAt.shaped (.int a) = true ∧ SeqAt.shaped (.tuple xs) = true then .ok (xs.any fun z => PyData.eqv z (.int a)) else .no := rfl
@[simp] theorem e_inT2 : gInB (.d (.tuple ys)) (.d (.tuple xs)) = if SeqAt.shaped (.tuple ys) = true ∧ SeqAt.shaped (.tuple xs) = true then .ok (xs.any fun z => PyData.eqv z (.tuple ys)) else .no := rfl
@[simp] theorem e_inL1 : gInB (.d x) (.d (.list xs)) = if SeqAt.shaped x = true ∧ SeqAt.shaped (.list xs) = true then .ok (xs.any fun z => PyData.eqv z x) else .no := by cases x <;> rfl
@[simp] theorem e_inL2 : gInB (.d x) (.ol xs) = if SeqAt.shaped x = true ∧ SeqAt.shaped (.list xs) = true then .ok (xs.any fun z => PyData.eqv z x) else .no := by cases x <;> rfl
@[simp] theorem e_inL3 : gInB (.d x) (.bl xs) = if SeqAt.shaped x = true ∧ SeqAt.shaped (.list xs) = true then .ok (xs.any fun z => PyData.eqv z x) else .no := by cases x <;> rfl
@[simp] theorem e_is (a : RV) : gIs a (.d .none) = .ok (.d (.bool (isNone a))) := rfl
@[simp] theorem e_isNot (a : RV) : gIsNot a (.d .none) = .ok (.d (.bool (!isNone a))) := rfl
@[simp] theorem e_isN1 : isNone (.d .none) = true := rfl
@[simp] theorem e_isN2 (a : Int) : isNone (.d (.int a)) = false := rfl
@[simp] theorem e_isN3 : isNone (.d (.tuple xs)) = false := rfl
@[simp] theorem e_isN4 : isNone (.d (.list xs)) = false := rfl
@[simp] theorem e_isN5 : isNone (.ol xs) = false := rfl
@[simp] theorem e_isN6 : isNone (.bl xs) = false := rfl
@[simp] theorem e_isN7 (s) : isNone (.d (.str s)) = false := rfl
@[simp] theorem e_ixT (a : Int) : gIx (.d (.tuple xs)) (.d (.int a)) = (rsO (atI xs a)).bind fun d => .ok (.d d) := rfl
@[simp] theorem e_ixL (a : Int) : gIx (.d (.list xs)) (.d (.int a)) = (rsO (atI xs a)).bind fun d => .ok (.d d) := rfl
@[simp] theorem e_ixO (a : Int) : gIx (.ol xs) (.d (.int a)) = (rsO (atI xs a)).bind fun d => .ok (.d d) := rfl
@[simp] theorem e_ixB (a : Int) : gIx (.bl xs) (.d (.int a)) = (rsO (atI xs a)).bind fun d => .ok (.d d) := rfl
@[simp] theorem e_ixSc (a : Int) (ns) : gIx (.sc ns) (.d (.int a)) = (rsO (atI (ns.map .int) a)).bind fun d => .ok (.d d) := rfl
@[simp] theorem e_ixS (a : Int) (z : Str) : gIx (.d (.str z)) (.d (.int a)) = if z.length ≤ 1000000 then (rsO (atI z.cps.toList a)).bind fun c => .ok (.d (.str ⟨#[c]⟩)) else .no := rfl
@[simp] theorem e_lenT : gLen [.d (.tuple xs)] = .ok (.d (.int xs.length)) := rfl
@[simp] theorem e_lenL : gLen [.d (.list xs)] = .ok (.d (.int xs.length)) := rfl
@[simp] theorem e_lenO : gLen [.ol xs] = .ok (.d (.int xs.length)) := rfl
@[simp] theorem e_lenB : gLen [.bl xs] = .ok (.d (.int xs.length)) := rfl
@[simp] theorem e_lenSc (ns : List Int) : gLen [.sc ns] = .ok (.d (.int ns.length)) := by show okI _ = _; simp
@[simp] theorem e_lenS (z : Str) : gLen [.d (.str z)] = if z.length ≤ 1000000 then .ok (.d (.int z.length)) else .no := rfl
@[simp] theorem e_tupT : gTupleC [.d (.tuple xs)] = .ok (.d (.tuple xs)) := rfl
@[simp] theorem e_tupL : gTupleC [.d (.list xs)] = .ok (.d (.tuple xs)) := rfl
@[simp] theorem e_tupO : gTupleC [.ol xs] = .ok (.d (.tuple xs)) := rfl
@[simp] theorem e_tupB : gTupleC [.bl xs] = .ok (.d (.tuple xs)) := rfl
@[simp] theorem e_lisT : gListC [.d (.tuple xs)] = .ok (.ol xs) := rfl
@[simp] theorem e_lisL : gListC [.d (.list xs)] = .ok (.ol xs) := rfl
@[simp] theorem e_lisO : gListC [.ol xs] = .ok (.ol xs) := rfl
@[simp] theorem e_lisB : gListC [.bl xs] = .ok (.ol xs) := rfl
@[simp] theorem e_min2 (a b : Int) : gMin2 [.d (.int a), .d (.int b)] = .ok (.d (.int (if b < a then b else a))) := rfl
@[simp] theorem e_max2 (a b : Int) : gMax2 [.d (.int a), .d (.int b)] = .ok (.d (.int (if b > a then b else a))) := rfl
@[simp] theorem e_any (r : RV) : gAny [r] = (rsO r.qv).bind fun xs => (rsO (boolsD xs)).bind fun bs => okB (bs.any id) := rfl
@[simp] theorem e_all (r : RV) : gAll [r] = (rsO r.qv).bind fun xs => (rsO (boolsD xs)).bind fun bs => okB (bs.all id) := rfl
@[simp] theorem e_sum (r : RV) : gSum [r] = (rsO r.qv).bind fun xs => (rsO (intsD xs)).bind fun bs => okI bs.sum := rfl
@[simp] theorem e_sorted (r : RV) : gSorted [r] = (rsO r.qv).bind fun xs => (rsO (intsD xs)).bind fun ns => .ok (.ol ((isort ns).map .int)) := rfl
@[simp] theorem e_rev (r : RV) : gRev r = (rsO r.qv).bind fun xs => .ok (.ol xs.reverse) := rfl
theorem e_R1 {a : Int} (h : a.natAbs ≤ 1000000) : gR1 [.d (.int a)] = .ok (rngL 0 a.toNat) := if_pos h
theorem e_R1n {n : Nat} (h : n ≤ 1000000) : gR1 [.d (.int n)] = .ok (rngL 0 n) := e_R1 (a := (n : Int)) h
theorem e_R2 {a b : Int} (h : a.natAbs ≤ 1000000) (h2 : b.natAbs ≤ 1000000) : gR2 [.d (.int a), .d (.int b)] = .ok (rngL a (b - a).toNat) := if_pos ⟨h, h2⟩
theorem e_R3 {a b : Int} (h : a.natAbs ≤ 1000000) (h2 : b.natAbs ≤ 1000000) : gR3 [.d (.int a), .d (.int b), .d (.int (-1))] = .ok ((List.range (a - b).toNat).map fun k : Nat => .int (a - (k : Int))) := if_pos ⟨rfl, h, h2⟩
@[simp] theorem e_sl (l h) : cSl fa l h env = (fa env).bind fun r => (l env).bind fun lo => (h env).bind fun hi => gSl r lo hi := rfl
@[simp] theorem e_oN : oN env = .ok none := rfl
@[simp] theorem e_isi (T : String) (r : RV) : gIsi T r = (rsO (r.data.bind tyD)).bind fun t => (rsO (kitB t T)).bind okB := rfl
@[simp] theorem e_lc (src own tg t) : cLc src own tg t fa env = (src env).bind fun xs => if xs.length ≤ 1000000 then (lcF tg t fa (wipeE env own) xs).bind fun ds => .ok (.ol ds) else .no := rfl
@[simp] theorem e_wipe0 : wipeE env [] = env := rfl
@[simp] theorem e_wipe1 (is) : wipeE env (i :: is) = (wipeE env is).set i none := rfl
theorem e_unp (tg) : sUnp tg fa env = (fa env).out env fun r => match r.toD with
  | some x => (match tgE tg x env with | some env' => .nx env' | none => .no)
  | none => .no := rfl
theorem e_app : sApp i fa env = match env[i]? with
  | some (some (.ol xs)) => (fa env).out env fun r => (match r.toD with
    | some d => if xs.length ≤ 1000000 then .nx (env.set i (some (.ol (xs ++ [d])))) else .no
    | none => .no)
  | _ => .no := rfl
theorem e_V : cV i env = match env[i]? with
  | some (some r) => .ok r.bor
  | _ => .no := rfl
theorem e_retV : sRetV i env = match env[i]? with
  | some (some r) => (r.nb).out env .rt
  | _ => .no := rfl
end
/-! ### subscripts -/
theorem atI_lt {α : Type} {xs : List α} {i : Int} (h0 : 0 ≤ i) (h : i < xs.length) : atI xs i = xs[i.toNat]? := by
  unfold atI ixN
  rw [if_pos h0, if_pos h]
  rfl
@[simp] theorem atI_zero {α : Type} (x : α) (xs : List α) : atI (x :: xs) 0 = some x := by
  have h : 0 < (x :: xs).length := by simp
  rw [atI_lt (Int.le_refl 0) (by omega)]
  rfl
theorem rngL_eq (n : Nat) : rngL 0 n = (List.range n).map fun k : Nat => .int (k : Int) := by
  unfold rngL
  congr 1
  funext k
  simp
/-! ### shapes -/
@[simp] theorem sh_int (i : Int) : SeqAt.shaped (.int i) = true := rfl
@[simp] theorem sh_none : SeqAt.shaped .none = true := rfl
@[simp] theorem sh_bool (b : Bool) : SeqAt.shaped (.bool b) = true := rfl
theorem can_ints : ∀ ns : List Int, PyData.canLayAll0 (ns.map .int) = true
  | [] => rfl
  | n :: ns => can_ints ns
theorem dep_ints : ∀ ns : List Int, PyData.depthAll (ns.map .int) = 0
  | [] => rfl
  | n :: ns => by rw [List.map_cons, PyData.depthAll, PyData.depth, dep_ints ns]; rfl
@[simp] theorem sh_tup (ns : List Int) : SeqAt.shaped (.tuple (ns.map .int)) = true := by
  unfold SeqAt.shaped
  rw [PyData.depth, dep_ints, PyData.canLay0, can_ints]
  rfl
@[simp] theorem sh_lst (ns : List Int) : SeqAt.shaped (.list (ns.map .int)) = true := by
  unfold SeqAt.shaped
  rw [PyData.depth, dep_ints, PyData.canLay0, can_ints]
  rfl
@[simp] theorem eqv_int (i j : Int) : PyData.eqv (.int i) (.int j) = decide (i = j) := by
  rw [PyData.eqv]
  by_cases h : i = j <;> simp [h]
theorem eqvAll_ints : ∀ xs ys : List Int, PyData.eqvAll (xs.map .int) (ys.map .int) = decide (xs = ys)
  | [], [] => rfl
  | [], _ :: _ => rfl
  | _ :: _, [] => rfl
  | x :: xs, y :: ys => by
    rw [List.map_cons, List.map_cons, PyData.eqvAll, eqvAll_ints xs ys, eqv_int]
    by_cases h : x = y <;> by_cases h2 : xs = ys <;> simp [h, h2]
@[simp] theorem eqv_tup (xs ys : List Int) : PyData.eqv (.tuple (xs.map .int)) (.tuple (ys.map .int)) = decide (xs = ys) := by rw [PyData.eqv, eqvAll_ints]
@[simp] theorem eqv_lst (xs ys : List Int) : PyData.eqv (.list (xs.map .int)) (.list (ys.map .int)) = decide (xs = ys) := by rw [PyData.eqv, eqvAll_ints]
theorem anyI (ns : List Int) (i : Int) : ((ns.map PyData.int).any fun z => PyData.eqv z (.int i)) = decide (i ∈ ns) := by
  rw [List.any_map]
  induction ns with
  | nil => rfl
  | cons n ns ih =>
    rw [List.any_cons, ih]
    simp only [Function.comp, eqv_int]
    by_cases h : n = i
    · simp [h]
    · by_cases h2 : i ∈ ns <;> simp [h, h2, Ne.symm h]
@[simp] theorem anyI' (ns : List Int) (i : Int) : (ns.any ((fun z => PyData.eqv z (.int i)) ∘ PyData.int)) = decide (i ∈ ns) := by rw [← List.any_map]; exact anyI ns i
end VL

namespace VL
open PySem PySem.Spec PyProof.Rows L2
/-! ## more constructs -/
section
variable {K : PySem.W.Frag} {ca : Nat → Addr}
def gRep (a b : RV) : Rs RV := match b with
  | .d (.int k) => (rsO a.lv).bind fun xs => if k.natAbs ≤ 1000000 ∧ xs.length * k.toNat ≤ 1000000 then .ok (.ol (List.replicate k.toNat xs).flatten) else .no
  | _ => .no
theorem DqA.rep {F : Hp} {ds : List PyData} {vs : List V} (h : DqA K F vs ds) : ∀ k : Nat, DqA K F (List.replicate k vs).flatten (List.replicate k ds).flatten
  | 0 => .nil
  | k + 1 => by
    rw [List.replicate_succ, List.replicate_succ, List.flatten_cons, List.flatten_cons]
    exact h.append (DqA.rep h k)
theorem s_rep : Op2S K ca rRep gRep := by
  intro W σ F0 H0 F H v1 v2 a b Q gr h1 h2 p
  unfold gRep at p
  split at p
  · rename_i k
    cases h2
    cases e : a.lv with
    | none => rw [e] at p; exact p.elim
    | some xs =>
      rw [e] at p
      simp only [rsO_some, Rs.bind_ok] at p
      split at p
      · rename_i hk
        obtain ⟨p1, vs, rfl, a1, q1⟩ := lv_ok gr.cfg.sub h1 e
        refine ⟨p1, k, vs, rfl, rfl, a1, by omega, by omega, ?_, fun l hl => ?_⟩
        · rw [q1.length]; exact Nat.le_of_lt (million hk.2)
        · have g2 := Grow.newO gr.cfg (.lst (List.replicate k.toNat vs).flatten) hl (fun _ z => by cases z)
          exact p _ _ _ (gr.trans g2) ⟨l, _, rfl, same_none gr.hh hl, same_none gr.cfg.sub hl, upd_same, q1.rep k.toNat⟩
      · exact p.elim
  · exact p.elim
end
section
variable {ca : Nat → Addr} {W : WX} {X : Cx} {a b c e : Expr} {es : List Expr} {fa fb fc : VEnv → Rs RV} {pos : Pos} {st : Stmt}
def sNo : VEnv → Out := fun _ => .no
theorem vs_never : VS ca W X st sNo := ⟨_, ps_never, fun _ _ _ _ _ _ _ p => p.elim⟩
/-! ### a list or a tuple walked -/
def iAny (K : PySem.W.Frag) (tl : TE) : TI := fun σ H R => tl σ H fun x H1 => ∃ a, x = .ref a ∧ (((∃ xs, SqL K H1 a xs) ∧ R (Itl K a) H1) ∨ ((∃ xs, SqT K H1 a xs) ∧ R (Itt K a) H1))
theorem pi_any {tg : Expr} {tl : TE} (hl : PE X e tl) : PI X tg e (iAny X.K tl) := by
  refine ⟨fun pns s0 σ H R I hyp => ?_⟩
  refine thn (hl.run pns s0 σ H _ I hyp) fun v s1 ⟨x, H1, I1, r1, a, ex, alt⟩ => ?_
  subst ex
  cases r1
  have fresh : ∀ b ∈ [s1.heap.objs.size], b = s1.heap.objs.size := fun b hb => by simpa using hb
  rcases alt with ⟨⟨xs, hq⟩, q⟩ | ⟨⟨xs, hq⟩, q⟩
  · obtain ⟨its, rv, pl, hz⟩ := I1.list hq
    refine wpAny_pyIter_list pl.isList ⟨s1.heap.objs.size, [s1.heap.objs.size], _, _, H1, rfl, I1.kept (t' := s1.toks) fun _ _ k => Heap.get?_push_of_some _ k, turn_list a _, ⟨_, Heap.get?_push_size _ rfl, rfl, rfl⟩, fun b hb => ?_, q⟩
    have eb := fresh b hb
    subst eb
    exact I1.fpOk (Nat.le_refl _) (I1.hok.fresh (Nat.le_refl _))
  · obtain ⟨its, rv, pl, hz⟩ := I1.tuple hq
    have pt : s1.heap.IsTuple a its.toArray := pl
    refine wpAny_pyIter_tuple pt ⟨s1.heap.objs.size, [s1.heap.objs.size], _, _, H1, rfl, I1.kept (t' := s1.toks) fun _ _ k => Heap.get?_push_of_some _ k, turn_tuple a _, ⟨_, Heap.get?_push_size _ rfl, rfl, rfl⟩, fun b hb => ?_, q⟩
    have eb := fresh b hb
    subst eb
    exact I1.fpOk (Nat.le_refl _) (I1.hok.fresh (Nat.le_refl _))
def gAq : RV → Rs (List PyData)
  | .d (.tuple xs) => .ok xs
  | r => gL r
def gAqb : RV → Rs (List PyData)
  | .d (.tuple xs) => .ok xs
  | r => gLb r
def iA (fe : VEnv → Rs RV) : VEnv → Rs (List PyData) := fun env => (fe env).bind gAq
def iAb (fe : VEnv → Rs RV) : VEnv → Rs (List PyData) := fun env => (fe env).bind gAqb
theorem vi_any {tg : Expr} (h : VE ca W X e fa) : VI ca W X tg e (iA fa) := by
  obtain ⟨t, p, s⟩ := h
  refine ⟨_, pi_any p, fun B F env σ H R st q => ?_⟩
  show t σ H fun x H1 => ∃ a, x = .ref a ∧ (((∃ xs, SqL X.K H1 a xs) ∧ R (Itl X.K a) H1) ∨ ((∃ xs, SqT X.K H1 a xs) ∧ R (Itt X.K a) H1))
  refine seqE (PostI X.K ca W σ F H R) s st q (fun _ _ h => h) (fun h => h) fun r F1 H1 v p1 g1 q1 => ?_
  cases r with
  | d x =>
    cases x with
    | list xs =>
      cases q1 with
      | lst h1 h2 => exact ⟨_, rfl, .inl ⟨⟨_, SqL.of (g1.cfg.sub _ _ h1)⟩, p1 _ F1 H1 _ g1 h2 (jw_list (SqL.of h1))⟩⟩
    | tuple xs =>
      cases q1 with
      | tup h1 h2 => exact ⟨_, rfl, .inr ⟨⟨_, same_seqT g1.cfg.sub h1⟩, p1 _ F1 H1 _ g1 h2 (jw_tup h1)⟩⟩
    | _ => exact p1.elim
  | ol xs =>
    obtain ⟨p, vs, rfl, n0, f, hp, q2⟩ := q1
    have g2 := g1.freeze n0 f hp
    have s2 : Same F1 (upd F1 p (.lst vs)) := fun b u k => by rw [upd_ne (ne_of_none k f)]; exact k
    exact ⟨p, rfl, .inl ⟨⟨_, SqL.of hp⟩, p1 _ _ H1 vs g2 (DqA.mono s2 _ _ q2) (jw_list (SqL.of upd_same))⟩⟩
  | sc ns =>
    obtain ⟨a, rfl, q2⟩ := q1
    exact ⟨a, rfl, .inl ⟨⟨_, g1.cfg.sub.seq q2⟩, p1 _ F1 H1 _ g1 (DqA.of_ints ns) (jw_list q2)⟩⟩
  | _ => exact p1.elim
theorem vj_any {tg : Expr} (h : VE ca W X e fa) : VJ ca W X tg e (iAb fa) := by
  obtain ⟨t, p, s⟩ := h
  refine ⟨_, pi_any p, fun B F env σ H R st q => ?_⟩
  show t σ H fun x H1 => ∃ a, x = .ref a ∧ (((∃ xs, SqL X.K H1 a xs) ∧ R (Itl X.K a) H1) ∨ ((∃ xs, SqT X.K H1 a xs) ∧ R (Itt X.K a) H1))
  refine seqE (PostJ X.K ca W σ F H R) s st q (fun _ _ h => h) (fun h => h) fun r F1 H1 v p1 g1 q1 => ?_
  cases r with
  | d x =>
    cases x with
    | list xs =>
      cases q1 with
      | lst h1 h2 => exact ⟨_, rfl, .inl ⟨⟨_, SqL.of (g1.cfg.sub _ _ h1)⟩, p1 _ F1 H1 _ g1 h2 (jw_list (SqL.of (g1.cfg.sub _ _ h1)))⟩⟩
    | tuple xs =>
      cases q1 with
      | tup h1 h2 => exact ⟨_, rfl, .inr ⟨⟨_, same_seqT g1.cfg.sub h1⟩, p1 _ F1 H1 _ g1 h2 (jw_tup (same_seqT g1.cfg.sub h1))⟩⟩
    | _ => exact p1.elim
  | ol xs =>
    obtain ⟨p, vs, rfl, n0, f, hp, q2⟩ := q1
    exact ⟨p, rfl, .inl ⟨⟨_, SqL.of hp⟩, p1 _ _ H1 vs g1 q2 (jw_list (SqL.of hp))⟩⟩
  | bl xs =>
    obtain ⟨p, vs, rfl, hp, q2⟩ := q1
    exact ⟨p, rfl, .inl ⟨⟨_, SqL.of hp⟩, p1 _ _ H1 vs g1 q2 (jw_list (SqL.of hp))⟩⟩
  | sc ns =>
    obtain ⟨a, rfl, q2⟩ := q1
    exact ⟨a, rfl, .inl ⟨⟨_, g1.cfg.sub.seq q2⟩, p1 _ F1 H1 _ g1 (DqA.of_ints ns) (jw_list (g1.cfg.sub.seq q2))⟩⟩
  | _ => exact p1.elim
@[simp] theorem e_iA (env : VEnv) : iA fa env = (fa env).bind gAq := rfl
@[simp] theorem e_iAb (env : VEnv) : iAb fa env = (fa env).bind gAqb := rfl
@[simp] theorem e_gAq1 (xs) : gAq (.d (.tuple xs)) = .ok xs := rfl
@[simp] theorem e_gAq2 (xs) : gAq (.d (.list xs)) = .ok xs := rfl
@[simp] theorem e_gAq3 (xs) : gAq (.ol xs) = .ok xs := rfl
@[simp] theorem e_gAqb1 (xs) : gAqb (.d (.tuple xs)) = .ok xs := rfl
@[simp] theorem e_gAqb2 (xs) : gAqb (.d (.list xs)) = .ok xs := rfl
@[simp] theorem e_gAqb3 (xs) : gAqb (.ol xs) = .ok xs := rfl
@[simp] theorem e_gAqb4 (xs) : gAqb (.bl xs) = .ok xs := rfl
@[simp] theorem e_no (env : VEnv) : sNo env = .no := rfl
theorem e_rep {xs : List PyData} {k : Int} {r : RV} (h : r.lv = some xs) (h1 : k.natAbs ≤ 1000000) (h2 : xs.length * k.toNat ≤ 1000000) : gRep r (.d (.int k)) = .ok (.ol (List.replicate k.toNat xs).flatten) := by
  show (rsO r.lv).bind _ = _
  rw [h]
  simp only [rsO_some, Rs.bind_ok]
  rw [if_pos ⟨h1, h2⟩]
theorem e_store (i : Nat) (fi fe : VEnv → Rs RV) (env : VEnv) : sStore i fi fe env = match env[i]? with
  | some (some (.ol xs)) => (fe env).out env fun r => (fi env).out env fun ix => (match r.toD, ix with
    | some d, .d (.int k) => (match ixN xs.length k with
      | some j => .nx (env.set i (some (.ol (xs.set j d))))
      | none => .no)
    | _, _ => .no)
  | _ => .no := rfl
/-! ### a < b < c -/
def cChI (g g' : RV → RV → Rs RV) (fc : VEnv → Rs RV) (env : VEnv) : RV → RV → Rs RV
  | .d (.int m), .d (.int n) => (g (.d (.int m)) (.d (.int n))).bind fun r => (asB r).bind fun k => if k = true then (fc env).bind fun z => g' (.d (.int n)) z else .ok (.d (.bool false))
  | _, _ => .no
def cCh (g g' : RV → RV → Rs RV) (fa fb fc : VEnv → Rs RV) : VEnv → Rs RV := fun env => (fa env).bind fun x => (fb env).bind fun y => cChI g g' fc env x y
@[simp] theorem e_cCh (g g') (env : VEnv) : cCh g g' fa fb fc env = (fa env).bind fun x => (fb env).bind fun y => cChI g g' fc env x y := rfl
@[simp] theorem e_cChI (g g') (env : VEnv) (m n : Int) : cChI g g' fc env (.d (.int m)) (.d (.int n)) = (g (.d (.int m)) (.d (.int n))).bind fun r => (asB r).bind fun k => if k = true then (fc env).bind fun z => g' (.d (.int n)) z else .ok (.d (.bool false)) := rfl
theorem snd_chain {K : PySem.W.Frag} {r r' : R2} {g g' : RV → RV → Rs RV} {ta tb tc : TE} (hr : Op2S K ca r g) (hr' : Op2S K ca r' g') (sa : SndE K ca W ta fa) (sb : SndE K ca W tb fb) (sc : SndE K ca W tc fc) : SndE K ca W (tChain r r' ta tb tc) (cCh g g' fa fb fc) := by
  intro B F env σ H Q st p
  show ta σ H fun x H1 => tb σ H1 fun y H2 => r x y H2 fun z H3 => ∃ k, z = .bl k ∧ (if k = true then tc σ H3 fun w' H4 => r' y w' H4 Q else Q (.bl false) H3)
  refine seqE (PostE K ca W σ F H Q) sa st p (fun _ _ h => h) (fun h => h) fun x F1 H1 v1 p1 g1 q1 => ?_
  refine seqE (PostE K ca W σ F H Q) sb (st.grow g1) p1 (fun _ _ h => PostX.mono g1 h) (fun h => h) fun y F2 H2 v2 p2 g2 q2 => ?_
  have g02 := g1.trans g2
  unfold cChI at p2
  split at p2
  · rename_i m n
    cases q1
    cases q2
    refine hr W σ F2 H2 F2 H2 _ _ (.d (.int m)) (.d (.int n)) _ (Grow.refl g2.cfg) (.int _) (.int _) ?_
    cases e : g (.d (.int m)) (.d (.int n)) with
    | ex c fs => rw [e] at p2; exact PostX.mono g02 p2
    | no => rw [e] at p2; exact p2
    | ok z =>
      rw [e] at p2
      simp only [Rs.bind_ok] at p2
      intro F3 H3 v3 g3 q3
      have g03 := g02.trans g3
      unfold asB at p2
      split at p2
      · rename_i k
        cases q3
        refine ⟨k, rfl, ?_⟩
        cases k with
        | false =>
          rw [if_neg Bool.false_ne_true]
          simp only [Rs.bind_ok, Bool.false_ne_true, if_false] at p2
          exact p2 F3 H3 _ g03 (.bl _)
        | true =>
          rw [if_pos rfl]
          simp only [Rs.bind_ok, if_true] at p2
          refine seqE (PostE K ca W σ F H Q) sc (st.grow g03) p2 (fun _ _ h => PostX.mono g03 h) (fun h => h) fun w F4 H4 v4 p4 g4 q4 => ?_
          exact hr' W σ F H F4 H4 _ v4 (.d (.int n)) w Q (g03.trans g4) (.int _) (q4.older g03.hh) p4
      · exact p2.elim
  · exact p2.elim
theorem ve_chain {op op' : CmpOp} {r r' : R2} {g g' : RV → RV → Rs RV} (ho : OpR X (compareOp op) r) (hr : Op2S X.K ca r g) (ho' : OpR X (compareOp op') r') (hr' : Op2S X.K ca r' g') (ha : VE ca W X a fa) (hb : VE ca W X b fb) (hc : VE ca W X c fc)
    (hm : lastMarks [op, op'] [b, c] = false := by with_unfolding_all rfl) : VE ca W X (.Compare a [op, op'] [b, c] pos) (cCh g g' fa fb fc) := by
  obtain ⟨ta, pa, sa⟩ := ha
  obtain ⟨tb, pb, sb⟩ := hb
  obtain ⟨tc, pc, sc⟩ := hc
  exact ⟨_, pe_chain ho ho' pa pb pc hm, snd_chain hr hr' sa sb sc⟩
theorem vt_chain {op op' : CmpOp} {r r' : R2} {g g' : RV → RV → Rs RV} (ho : OpR X (compareOp op) r) (hr : Op2S X.K ca r g) (ho' : OpR X (compareOp op') r') (hr' : Op2S X.K ca r' g') (ha : VE ca W X a fa) (hb : VE ca W X b fb) (hc : VE ca W X c fc)
    (hm : lastMarks [op, op'] [b, c] = false := by with_unfolding_all rfl) : VT ca W X (.Compare a [op, op'] [b, c] pos) (cB (cCh g g' fa fb fc)) := by
  obtain ⟨ta, pa, sa⟩ := ha
  obtain ⟨tb, pb, sb⟩ := hb
  obtain ⟨tc, pc, sc⟩ := hc
  exact ⟨_, pt_chain ho ho' pa pb pc hm, snd_test (snd_chain hr hr' sa sb sc)⟩
end
end VL

namespace VL
open PySem PySem.Spec PyProof.Rows L2
theorem e_fzE (i : Nat) (env : VEnv) : fzE i env = match env[i]? with
  | some (some (.ol xs)) => env.set i (some (.d (.list xs)))
  | _ => env := rfl
theorem tyD_list (xs) : tyD (.list xs) = some "list" := rfl
theorem tyD_tuple (xs) : tyD (.tuple xs) = some "tuple" := rfl
theorem tyD_int (a) : tyD (.int a) = some "int" := rfl
theorem kitB_ll : kitB "list" "list" = some true := by decide +kernel
theorem kitB_tt : kitB "tuple" "tuple" = some true := by decide +kernel
theorem kitB_lt : kitB "list" "tuple" = some false := by decide +kernel
theorem kitB_tl : kitB "tuple" "list" = some false := by decide +kernel
theorem kitB_ii : kitB "int" "int" = some true := by decide +kernel

theorem atI_cons {α : Type} (xs : List α) (n : Nat) (h : n < xs.length) : atI xs (n : Int) = xs[n]? := by
  rw [atI_lt (by omega) (by omega)]; rfl
theorem e_at1 {α : Type} (x0 x1 : α) (xs : List α) : atI (x0 :: x1 :: xs) 1 = some x1 := atI_cons _ 1 (by simp)
theorem e_at2 {α : Type} (x0 x1 x2 : α) (xs : List α) : atI (x0 :: x1 :: x2 :: xs) 2 = some x2 := atI_cons _ 2 (by simp)
theorem e_at3 {α : Type} (x0 x1 x2 x3 : α) (xs : List α) : atI (x0 :: x1 :: x2 :: x3 :: xs) 3 = some x3 := atI_cons _ 3 (by simp)
theorem e_at4 {α : Type} (x0 x1 x2 x3 x4 : α) (xs : List α) : atI (x0 :: x1 :: x2 :: x3 :: x4 :: xs) 4 = some x4 := atI_cons _ 4 (by simp)
theorem e_at5 {α : Type} (x0 x1 x2 x3 x4 x5 : α) (xs : List α) : atI (x0 :: x1 :: x2 :: x3 :: x4 :: x5 :: xs) 5 = some x5 := atI_cons _ 5 (by simp)
theorem e_at6 {α : Type} (x0 x1 x2 x3 x4 x5 x6 : α) (xs : List α) : atI (x0 :: x1 :: x2 :: x3 :: x4 :: x5 :: x6 :: xs) 6 = some x6 := atI_cons _ 6 (by simp)
theorem e_at7 {α : Type} (x0 x1 x2 x3 x4 x5 x6 x7 : α) (xs : List α) : atI (x0 :: x1 :: x2 :: x3 :: x4 :: x5 :: x6 :: x7 :: xs) 7 = some x7 := atI_cons _ 7 (by simp)
theorem e_at8 {α : Type} (x0 x1 x2 x3 x4 x5 x6 x7 x8 : α) (xs : List α) : atI (x0 :: x1 :: x2 :: x3 :: x4 :: x5 :: x6 :: x7 :: x8 :: xs) 8 = some x8 := atI_cons _ 8 (by simp)
theorem e_at9 {α : Type} (x0 x1 x2 x3 x4 x5 x6 x7 x8 x9 : α) (xs : List α) : atI (x0 :: x1 :: x2 :: x3 :: x4 :: x5 :: x6 :: x7 :: x8 :: x9 :: xs) 9 = some x9 := atI_cons _ 9 (by simp)
theorem e_atm {α : Type} (xs : List α) (x : α) : atI (xs ++ [x]) (-1) = some x := by
  have h : ixN (xs ++ [x]).length (-1) = some xs.length := by
    unfold ixN
    rw [if_neg (by decide), if_pos (by simp; omega)]
    congr 1
    simp
    omega
  unfold atI
  rw [h]
  simp
theorem eqv_bool (a b : Bool) : PyData.eqv (.bool a) (.bool b) = (a == b) := by cases a <;> cases b <;> rfl
theorem eqv_none : PyData.eqv .none .none = true := rfl
theorem tyD_bool (a) : tyD (.bool a) = some "bool" := rfl
theorem tyD_str (a) : tyD (.str a) = some "str" := rfl
theorem tyD_none : tyD .none = some "NoneType" := rfl
theorem kitB_bb : kitB "bool" "bool" = some true := by decide +kernel
theorem kitB_nb : kitB "NoneType" "bool" = some false := by decide +kernel
theorem kitB_bi : kitB "bool" "int" = some true := by decide +kernel
theorem kitB_ib : kitB "int" "bool" = some false := by decide +kernel
theorem kitB_nl : kitB "NoneType" "list" = some false := by decide +kernel
theorem kitB_nt : kitB "NoneType" "tuple" = some false := by decide +kernel
theorem e_andB (a b : Bool) : (if a = true then Rs.ok (RV.d (.bool b)) else Rs.ok (RV.d (.bool false))) = .ok (.d (.bool (a && b))) := by cases a <;> rfl
theorem e_orB (a b : Bool) : (if a = true then Rs.ok (RV.d (.bool true)) else Rs.ok (RV.d (.bool b))) = .ok (.d (.bool (a || b))) := by cases a <;> rfl
theorem e_andR (a b : Bool) : (if a = true then Rs.ok b else Rs.ok false) = .ok (a && b) := by cases a <;> rfl
theorem e_orR (a b : Bool) : (if a = true then Rs.ok true else Rs.ok b) = .ok (a || b) := by cases a <;> rfl

end VL

namespace VL
open PySem PySem.Spec PyProof.Rows L2
/-! ## defs with keyword-only parameters -/
section
variable {ca : Nat → Addr} {W : WX} {X : Cx} {e : Expr} {es : List Expr} {pos kpos : Pos} {nm : Option Str} {kws : List Keyword}
theorem fnD_ok {P : Program} {w : World} {K : PySem.W.Frag} {mg : Str → Option Value} {base : Heap} {x qual : Str} {sd : Stmt} {dl : List (Str × V)} {fA : Addr} {fd : FuncData} {N ps : List Str} {k : Nat} {body : VEnv → Out} (F : FunD K x qual (defArgs sd) (defBody sd) (defScope sd) [] dl fA fd) (S : FnScope N ps (defScope sd))
    (hb : ∀ (cdv : Value) (A : Around) (outer : List PySem.Env) (s : Shared) (H : Hp) (E : XK), Room k (A.deeper (envOfC qual (defScope sd) s.heap.objs.size fA cdv)) → Takes (cxOf (L2.CX P w) P w K mg base N qual (defScope sd) fA cdv A outer s H E) (fun cls dx _ H' => E cls dx H') →
      PassesOwn (model P w) (A.deeper (envOfC qual (defScope sd) s.heap.objs.size fA cdv)) (envOfC qual (defScope sd) s.heap.objs.size fA cdv) (cxOf (L2.CX P w) P w K mg base N qual (defScope sd) fA cdv A outer s H E).xe →
      VSs ca (fun cls dx _ H' => E cls dx H') (cxOf (L2.CX P w) P w K mg base N qual (defScope sd) fA cdv A outer s H E) (defBody sd) body) : FnOk P w K mg base (L2.CX P w) (k + 1) fA fd ps (spV K ca ps.length (fnD N.length body)) := by
  refine F.ok S (fun vs H Q E h => h.1) (fun cdv A outer s H vs Q E hr h => ?_)
  obtain ⟨hl, G, rs, c, pr, q⟩ := h
  obtain ⟨t, p, sn⟩ := hb cdv A outer s H E hr (takes_of rfl rfl rfl rfl) (passes_of rfl)
  refine ⟨t, p, sn ⟨G, H⟩ G _ _ H _ (start_ok N c pr) ?_⟩
  unfold fnD at q
  generalize hB : body (rs.map some ++ List.replicate (N.length - rs.length) none) = o at q ⊢
  cases o with
  | nx env => exact fun F' σ' H' s st => q F' H' .non st.gr .non
  | rt r => exact fun F' H' v g r => q F' H' v g r
  | ex c fs env => exact fun F' σ' H' cls dx s st x => q F' H' cls dx st.gr x
  | bk env => exact q.elim
  | ct env => exact q.elim
  | no => exact q.elim
theorem paired_app {α β : Type} {R : α → β → Prop} : ∀ {as : List α} {bs : List β} {cs : List α} {ds : List β}, Paired R as bs → Paired R cs ds → Paired R (as ++ cs) (bs ++ ds)
  | _, _, _, _, .nil, h => h
  | _, _, _, _, .cons a b, h => .cons a (paired_app b h)
theorem paired_D {K : PySem.W.Frag} {H0 F H : Hp} : ∀ {vs : List V} {ds : List PyData}, DqA K F vs ds → Paired (fun v r => RVok K H0 F H v r) vs (ds.map RV.d)
  | _, _, .nil => .nil
  | _, _, .cons a b => .cons a (paired_D b)
def KDs (K : PySem.W.Frag) (D : Addr) (l : List (Str × V)) : Prop := ∀ q ∈ l, ∃ u, PySem.W.nsIn K D q.1 = some (some u) ∧ RelV q.2 u
theorem kd_nil {K : PySem.W.Frag} {D : Addr} : KDs K D [] := fun _ h => absurd h (by simp)
theorem kd_cons {K : PySem.W.Frag} {D : Addr} {x : Str} {v : V} {u : Value} {l : List (Str × V)} (h : PySem.W.nsIn K D x = some (some u)) (r : RelV v u) (t : KDs K D l) : KDs K D ((x, v) :: l) := fun q hq => by
  rcases List.mem_cons.mp hq with rfl | hq
  · exact ⟨u, h, r⟩
  · exact t q hq
theorem fund_mk {K : PySem.W.Frag} {x qual : Str} {params : Arguments} {body : List Stmt} {scope : Scope} {f D : Addr} {dl : List (Str × V)} {oc doc pm cdv ct : Value} {od an : Option Addr} {osl : Array (Option Value)}
    (l : K.lookup f = some ⟨oc, od, .func (PySem.W.fnOf x qual params body scope .none (.ref D) doc pm an cdv ct), osl⟩) (c : PySem.W.codeIn K cdv qual = true) (k : PySem.W.keepIn K (.ref f) = true) (h : KDs K D dl) : FunD K x qual params body scope [] dl f (PySem.W.fnOf x qual params body scope .none (.ref D) doc pm an cdv ct) :=
  ⟨⟨_, _, _, _, _, _, _, _, _, _, rfl, l, c, .inl ⟨rfl, rfl⟩, .inr ⟨D, rfl, h⟩⟩, k⟩
/-- what is written for the values that lack: data that stands in K -/
def Still (K : PySem.W.Frag) (dvs : List V) (dds : List PyData) : Prop := ∀ F, DqA K F dvs dds
/-- a call where all keyword-only values lack -/
def DBn (K : PySem.W.Frag) (fd : FuncData) (ps : List Str) (dds : List PyData) : Prop := ∃ dvs, (∃ ds, Vals dvs ds ∧ Binds K fd ps ds) ∧ Still K dvs dds
/-- a call with n positional values and the keywords ks; dds: the data that lacks -/
def KDB (K : PySem.W.Frag) (fd : FuncData) (ps : List Str) (n : Nat) (ks : List Str) (dds : List PyData) : Prop := ∃ mz, (∃ mv, KBn K fd ps n ks (fun us ws => us ++ (ws ++ mv)) (fun vs zs => vs ++ (zs ++ mz))) ∧ Still K mz dds
/-- the values that defaults may be -/
theorem still_nil {K : PySem.W.Frag} : Still K [] [] := fun _ => .nil
theorem still_cons {K : PySem.W.Frag} {v : V} {d : PyData} {vs : List V} {ds : List PyData} (h : ∀ F, Dq K F v d) (t : Still K vs ds) : Still K (v :: vs) (d :: ds) := fun F => .cons (h F) (t F)
theorem still_tup0 {K : PySem.W.Frag} {T : Addr} {od : Option Addr} {n : Nat} {sl : Array (Option Value)} (l : K.lookup T = some ⟨.type "tuple", od, .seq #[] n, sl⟩) (F : Hp) : Dq K F (.ref T) (.tuple []) := .tup (.inr ⟨_, _, _, l, rfl, rfl, Nat.zero_le _, .nil⟩) .nil
/-- f(e, ..) where keyword-only values lack -/
theorem ve_callD {fA : Addr} {fd : FuncData} {ps : List Str} {x : Str} {p : Pos} {k n m : Nat} {dds : List PyData} {G : List RV → Rs RV} {f : VEnv → Rs (List RV)} (Fo : FnOk X.prog X.w X.K X.mg X.base (L2.CX X.prog X.w) k fA fd ps (spV X.K ca n G)) (hr : Room k X.A) (hg : Gl X x) (hm : X.mg x = some (.ref fA)) (hk : PySem.W.keepIn X.K (.ref fA) = true) (hb : DBn X.K fd ps dds) (tk : Takes X W)
    (ha : VA ca W X (e :: es) f) (hn : m + dds.length = n := by rfl) (hdb : (x == ("__debug__" : Str)) = false := by decide) (he : starEach (e :: es) X.env = (false, eval e X.env) :: starEach es X.env := by rfl) (hpl : (backTo pos (starEach es X.env)).any (·.1) = false := by rfl) :
    VE ca W X (.Call (.Name x p) (e :: es) [] pos) (cA (fun rs => if rs.length = m then G (rs.map RV.arg ++ dds.map RV.d) else .no) f) := by
  obtain ⟨t, pa, sa⟩ := ha
  obtain ⟨dvs, ⟨ds, hd, hb⟩, hS⟩ := hb
  refine ⟨_, pe_callSD Fo hr hg hm hk hb hd (fun σ => passAt tk σ) pa hdb he hpl, fun B F env σ H Q st q => ?_⟩
  show t σ H fun vs H1 => spV X.K ca n G (vs ++ dvs) H1 Q (WE W σ)
  refine seqA (PostE X.K ca W σ F H Q) sa st q (fun _ _ h => h) (fun h => h) fun rs F1 H1 vs p1 g1 q1 => ?_
  split at p1
  · rename_i hl
    obtain ⟨F2, g2, s2, q2⟩ := args_go g1 (Same.refl _) q1
    have q3 : Paired (fun v r => RVok X.K H1 F2 H1 v r) (vs ++ dvs) (rs.map RV.arg ++ dds.map RV.d) := paired_app q2 (paired_D (hS F2))
    refine ⟨by rw [Paired.length q3, List.length_append, List.length_map, List.length_map, hl, hn], F2, _, g2.cfg, q3, ?_⟩
    cases e1 : G (rs.map RV.arg ++ dds.map RV.d) with
    | ok r => rw [e1] at p1; exact fun G' H' v gg rr => p1 G' H' v (g2.trans gg) (rr.older g2.hh)
    | ex c fs => rw [e1] at p1; exact fun G' H' cls dx gg x => p1 G' H' cls dx (g2.trans gg) x
    | no => rw [e1] at p1; exact p1
  · exact p1.elim
/-! ### f(e, .., k = v, ..) -/
/-- the keywords' values -/
def VK1 (ca : Nat → Addr) (W : WX) (X : Cx) (kws : List Keyword) (f : VEnv → Rs (List RV)) : Prop := ∃ t, PK X kws t ∧ SndA X.K ca W t f
theorem vk_nil : VK1 ca W X [] aN := ⟨_, pk_nil, fun _ _ _ _ _ _ st p => p _ _ _ (Grow.refl st.cfg) .nil⟩
theorem vk_cons {f : VEnv → Rs RV} {g : VEnv → Rs (List RV)} (he : VE ca W X e f) (hr : VK1 ca W X kws g) : VK1 ca W X (⟨nm, e, kpos⟩ :: kws) (aC f g) := by
  obtain ⟨te, pe, se⟩ := he
  obtain ⟨tr, pr, sr⟩ := hr
  refine ⟨_, pk_cons pe pr, fun B F env σ H Q st p => ?_⟩
  show te σ H fun x H1 => tr σ H1 fun xs H2 => Q (x :: xs) H2
  refine seqE (PostA X.K ca W σ F H Q) se st p (fun _ _ h => h) (fun h => h) fun x F1 H1 v1 p1 g1 q1 => ?_
  refine seqA (PostA X.K ca W σ F H Q) sr (st.grow g1) p1 (fun _ _ h => PostX.mono g1 h) (fun h => h) fun xs F2 H2 vs p2 g2 q2 => ?_
  exact p2 F2 H2 (v1 :: vs) (g1.trans g2) (.cons (q1.grow g2) (paired_older g1.hh q2))
def tCallKW (n m : Nat) (sp : Sp) (mz : List V) (W : WX) (t tk : TA) : TE := fun σ H Q => t σ H fun vs H1 => tk σ H1 fun zs H2 => vs.length = n ∧ zs.length = m ∧ sp (vs ++ (zs ++ mz)) H2 Q (WE W σ)
theorem pe_callKW {CX : CXT} {k n : Nat} {f : Addr} {fd : FuncData} {ps ks : List Str} {sp : Sp} {x : Str} {p : Pos} {mv : List Value} {mz : List V} {t tk : TA} (F : FnOk X.prog X.w X.K X.mg X.base CX k f fd ps sp) (hr : Room k X.A) (hg : Gl X x) (hm : X.mg x = some (.ref f)) (hk : PySem.W.keepIn X.K (.ref f) = true)
    (hb : KBn X.K fd ps n ks (fun us ws => us ++ (ws ++ mv)) (fun vs zs => vs ++ (zs ++ mz))) (hx : ∀ σ, PassesAt CX X σ (WE W σ)) (ha : PA X (e :: es) t) (hkw : PK X kws tk) (hall : (backToKw pos (keywordEach kws X.env)).all (·.1.isSome) = true) (hks : (backToKw pos (keywordEach kws X.env)).filterMap (·.1) = ks)
    (hdb : (x == ("__debug__" : Str)) = false) (he : starEach (e :: es) X.env = (false, eval e X.env) :: starEach es X.env)
    (hpl : ((backTo pos (starEach (e :: es) X.env)).any (·.1) || (backToKw pos (keywordEach kws X.env)).any (·.1.isNone)) = false) : PE X (.Call (.Name x p) (e :: es) kws pos) (tCallKW n ks.length sp mz W t tk) := by
  refine ⟨fun pins s σ H Q I h => wpAny_Call_Name_kw (ld_glob I hg hm ?_ hdb)⟩
  refine PySem.W.callWith_KW (h₀ := X.base) I.ok.mod.kin hk hall (thn (ha.run pos pins s σ H _ I h) fun us s1 ⟨vs, H1, I1, r, q⟩ => ?_) hpl he
  refine thn (hkw.run pos pins s1 σ H1 _ I1 q) fun ws s2 ⟨zs, H2, I2, rz, l1, l2, q2⟩ => ⟨I2.kIn, ?_⟩
  rw [hks]
  refine wpAny_call (codeAny_mono (F.run X.A X.stack s2 H2 ⟨us, ks.zip ws⟩ (us ++ (ws ++ mv)) (vs ++ (zs ++ mz)) Q (WE W σ) hr I2.env0 (hb.to s2 us ws I2.kIn (r.length.symm.trans l1) (rz.length.symm.trans l2)) (hb.rel r rz) q2) fun r s' hq => ?_)
  cases r with
  | error ev => exact hx σ pins H2 s2 ev s' I2 hq
  | ok fl =>
    cases fl with
    | ret u => exact I2.after hq
    | next => exact hq.elim
    | brk => exact hq.elim
    | cont => exact hq.elim
/-- positional values, then the keywords', then those that lack -/
def cAK (h : List RV → List RV → Rs RV) (f g : VEnv → Rs (List RV)) : VEnv → Rs RV := fun env => (f env).bind fun rs => (g env).bind fun zs => h rs zs
theorem ve_callK {fA : Addr} {fd : FuncData} {ps ks : List Str} {x : Str} {p : Pos} {k n m : Nat} {dds : List PyData} {G : List RV → Rs RV} {f g : VEnv → Rs (List RV)} (Fo : FnOk X.prog X.w X.K X.mg X.base (L2.CX X.prog X.w) k fA fd ps (spV X.K ca n G)) (hr : Room k X.A) (hg : Gl X x) (hm : X.mg x = some (.ref fA)) (hk : PySem.W.keepIn X.K (.ref fA) = true)
    (hb : KDB X.K fd ps m ks dds) (tk : Takes X W)
    (ha : VA ca W X (e :: es) f) (hkw : VK1 ca W X kws g) (hn : m + (ks.length + dds.length) = n := by rfl) (hall : (backToKw pos (keywordEach kws X.env)).all (·.1.isSome) = true := by rfl) (hks : (backToKw pos (keywordEach kws X.env)).filterMap (·.1) = ks := by rfl)
    (hdb : (x == ("__debug__" : Str)) = false := by decide) (he : starEach (e :: es) X.env = (false, eval e X.env) :: starEach es X.env := by rfl)
    (hpl : ((backTo pos (starEach (e :: es) X.env)).any (·.1) || (backToKw pos (keywordEach kws X.env)).any (·.1.isNone)) = false := by rfl) :
    VE ca W X (.Call (.Name x p) (e :: es) kws pos) (cAK (fun rs zs => if rs.length = m ∧ zs.length = ks.length then G (rs.map RV.arg ++ (zs.map RV.arg ++ dds.map RV.d)) else .no) f g) := by
  obtain ⟨t, pa, sa⟩ := ha
  obtain ⟨t2, pk, sk⟩ := hkw
  obtain ⟨mz, ⟨mv, hb⟩, hS⟩ := hb
  refine ⟨_, pe_callKW Fo hr hg hm hk hb (fun σ => passAt tk σ) pa pk hall hks hdb he hpl, fun B F env σ H Q st q => ?_⟩
  show t σ H fun vs H1 => t2 σ H1 fun zs H2 => vs.length = m ∧ zs.length = ks.length ∧ spV X.K ca n G (vs ++ (zs ++ mz)) H2 Q (WE W σ)
  refine seqA (PostE X.K ca W σ F H Q) sa st q (fun _ _ h => h) (fun h => h) fun rs F1 H1 vs p1 g1 q1 => ?_
  refine seqA (PostE X.K ca W σ F H Q) sk (st.grow g1) p1 (fun _ _ h => PostX.mono g1 h) (fun h => h) fun zs F2 H2 ws p2 g2 q2 => ?_
  simp only at p2
  split at p2
  · rename_i hl
    have q1' : Paired (fun v r => RVok X.K H F2 H2 v r) vs rs := paired_grow g2 (paired_older (Same.refl _) q1)
    have q2' : Paired (fun v r => RVok X.K H F2 H2 v r) ws zs := paired_older g1.hh q2
    obtain ⟨F3, g3, s3, q3⟩ := args_go (g1.trans g2) (Same.refl _) (paired_app q1' q2')
    rw [List.map_append] at q3
    have q4 : Paired (fun v r => RVok X.K H2 F3 H2 v r) (vs ++ (ws ++ mz)) (rs.map RV.arg ++ (zs.map RV.arg ++ dds.map RV.d)) := by
      rw [← List.append_assoc, ← List.append_assoc]
      exact paired_app q3 (paired_D (hS F3))
    have l1 : vs.length = m := by rw [Paired.length q1, hl.1]
    have l2 : ws.length = ks.length := by rw [Paired.length q2, hl.2]
    refine ⟨l1, l2, by rw [Paired.length q4, List.length_append, List.length_append, List.length_map, List.length_map, List.length_map, hl.1, hl.2, hn], F3, _, g3.cfg, q4, ?_⟩
    cases e1 : G (rs.map RV.arg ++ (zs.map RV.arg ++ dds.map RV.d)) with
    | ok r => rw [e1] at p2; exact fun G' H' v gg rr => p2 G' H' v (g3.trans gg) (rr.older g3.hh)
    | ex c fs => rw [e1] at p2; exact fun G' H' cls dx gg x => p2 G' H' cls dx (g3.trans gg) x
    | no => rw [e1] at p2; exact p2
  · exact p2.elim
@[simp] theorem e_cAK (h) (f g : VEnv → Rs (List RV)) (env : VEnv) : cAK h f g env = (f env).bind fun rs => (g env).bind fun zs => h rs zs := rfl
end
end VL

namespace VL
open PySem PySem.Spec PyProof.Rows L2

/-! ## dicts whose keys are tuples of ints: the machine's side -/
abbrev tk (P : Program) (w : World) : HeapKind P w (List Int) := tupleKind (intKind P w)
section
variable {X : Cx} {pins : List (Addr × Obj)} {σ : L2.St} {H : Hp} {s : Shared} {a b p d : Addr} {ks : List Int} {xs : List (List Int × Addr × Value)} {n : Nat} {A : Around} {E : Value → Shared → Prop}
theorem items_ints {P : Program} {w : World} : ∀ {ks : List Int} {us : List Value}, Vals (ks.map V.int) us → ItemsAre (intKind P w) ks us
  | [], _, r => by rw [List.map_nil] at r; cases r; exact .nil
  | k :: ks, _, r => by
    rw [List.map_cons] at r
    cases r with
    | cons h t => obtain ⟨t1, rfl⟩ := h; exact .cons (by show Value.isInt k (.int k t1) = true; simp [Value.isInt]) (items_ints t)
theorem key_is (I : Inv X pins σ H s) (h : SqT X.K H b (ks.map V.int)) : (tk X.prog X.w).is s.heap ks b := by
  obtain ⟨its, r, ⟨o, ho, hc, n, hd⟩, _⟩ := I.tuple h
  exact ⟨o, its.toArray, n, ho, hc, hd, by simpa using items_ints r⟩
/-- all keys stand -/
def KeysIn (K : PySem.W.Frag) (H : Hp) (xs : List (List Int × Addr × Value)) : Prop := ∀ x ∈ xs, SqT K H x.2.1 (x.1.map V.int)
theorem dto_ok (I : Inv X pins σ H s) (e : H p = some (DTO p (n, xs))) (k : KeysIn X.K H xs) : s.heap.DictOfH (tk X.prog X.w) p xs ∧ xs.length ≤ sizeLine ∧ (p == sysModules) = false := by
  obtain ⟨⟨o, es, h1, h2, h3, h4, h5, h6, h7⟩, _⟩ := (show ObjOk X.prog X.w H s.heap p (.ext (DTOk p (n, xs))) from I.hok p _ e)
  exact ⟨⟨o, es, n, h1, h2, h3, h4, fun x hx => key_is I (k x hx), h5⟩, h6, h7⟩
theorem dto_new {P : Program} {w : World} {h : Heap} (dd : h.DictOfH (tk P w) p xs) (z : xs.length ≤ sizeLine) (hd : (p == sysModules) = false) : ∃ n, ∀ H, ObjOk P w H h p (DTO p (n, xs)) := by
  obtain ⟨o, es, ep, h1, h2, h3, h4, _, h5⟩ := dd
  refine ⟨ep, fun H => ⟨⟨o, es, h1, h2, h3, h4, h5, z, hd⟩, ⟨o, h1⟩, fun k1 k2 q k => ?_⟩⟩
  obtain ⟨o, es, h1, r⟩ := q
  exact ⟨o, es, k _ h1, r⟩
theorem storedH_len (xs : List (List Int × Addr × Value)) (k : List Int) (a : Addr) (v : Value) : (storedH xs k a v).length ≤ xs.length + 1 := by
  unfold storedH
  split <;> simp
/-- d[k] -/
abbrev rIxDT (K : PySem.W.Frag) : R2 := fun x y H Q => ∃ p b n xs ks q v, x = .ref p ∧ y = .ref b ∧ H p = some (DTO p (n, xs)) ∧ KeysIn K H xs ∧ SqT K H b (ks.map V.int) ∧ atKey xs ks = some q ∧ RelV v q.2 ∧ Q v H
theorem ix_dt (hu : X.A.units + 1 < cLine) : IxR X (rIxDT X.K) := by
  intro value slice pins s σ H x y v u Q I rx ry h hs
  obtain ⟨p, b, n, xs, ks, q, z, rfl, rfl, e, kk, hk, hq, rz, fin⟩ := h
  cases rx; cases ry
  obtain ⟨dd, z1, z2⟩ := dto_ok I e kk
  unfold subscriptTail
  refine wpAny_bind ?_
  rw [getitemInPython_of_ne dd.typeIs.not_modules]
  refine wpAny_bind (wpAny_specialOf dd.typeIs PySem.F.slot_dict_getitem.lookup ?_)
  have fin : wpAny (model X.prog X.w) X.A (subscripted slice false (.ref p) (.ref b)) (fun r s₃ => wpAny (model X.prog X.w) X.A (letTemporaryGo value (.ref p) r >>= fun _ => pure r) (EP X pins σ Q) X.xe s₃) X.xe s := by
    rw [hs]
    exact wpAny_operating (wpAny_getItem_heap (tupleKind_room_in1 hu) (key_is I hk) dd hq (wpAny_bind (wpAny_letTemporaryGo (wpAny_pure ⟨z, H, I.tok _, rz, fin⟩))))
  first
    | exact wpAny_pure (wpAny_bind fin)
    | exact wpAny_bind (wpAny_pure (wpAny_bind fin))
    | exact wpAny_bind fin
/-- d[k], keys ints and texts -/
abbrev rIxDK : R2 := fun x y H Q => ∃ a v, x = .ref a ∧ DGet H a y (some v) ∧ Q v H
theorem ix_dk (hu : X.A.units + 1 < cLine) : IxR X rIxDK := by
  intro value slice pins s σ H x y v u Q I rx ry h hs
  obtain ⟨p, z, rfl, g, fin⟩ := h
  cases rx
  have dd := dict_typeIs I g
  unfold subscriptTail
  refine wpAny_bind ?_
  rw [getitemInPython_of_ne dd.not_modules]
  refine wpAny_bind (wpAny_specialOf dd PySem.F.slot_dict_getitem.lookup ?_)
  have fin : wpAny (model X.prog X.w) X.A (subscripted slice false (.ref p) u) (fun r s₃ => wpAny (model X.prog X.w) X.A (letTemporaryGo value (.ref p) r >>= fun _ => pure r) (EP X pins σ Q) X.xe s₃) X.xe s := by
    rw [hs]
    exact wpAny_operating (d_getItem hu I g ry fun w' s3 I3 rw' => wpAny_bind (wpAny_letTemporaryGo (wpAny_pure ⟨z, H, I3, rw', fin⟩)))
  first
    | exact wpAny_pure (wpAny_bind fin)
    | exact wpAny_bind (wpAny_pure (wpAny_bind fin))
    | exact wpAny_bind fin
/-- k in d -/
abbrev rInDT (K : PySem.W.Frag) : R2 := fun x y H Q => ∃ p b n xs ks, x = .ref b ∧ y = .ref p ∧ H p = some (DTO p (n, xs)) ∧ KeysIn K H xs ∧ SqT K H b (ks.map V.int) ∧ Q (.bl (atKey xs ks).isSome) H
abbrev rNotInDT (K : PySem.W.Frag) : R2 := fun x y H Q => ∃ p b n xs ks, x = .ref b ∧ y = .ref p ∧ H p = some (DTO p (n, xs)) ∧ KeysIn K H xs ∧ SqT K H b (ks.map V.int) ∧ Q (.bl (!(atKey xs ks).isSome)) H
abbrev rInDK : R2 := fun y x H Q => ∃ a o, x = .ref a ∧ DGet H a y o ∧ Q (.bl o.isSome) H
abbrev rNotInDK : R2 := fun y x H Q => ∃ a o, x = .ref a ∧ DGet H a y o ∧ Q (.bl (!o.isSome)) H
theorem op_inDT (hu : X.A.units + 1 < cLine) : OpR X (compareOp .In) (rInDT X.K) := by
  intro pins s σ H x y v u Q I rx ry h
  obtain ⟨p, b, n, xs, ks, rfl, rfl, e, kk, hk, fin⟩ := h
  cases rx; cases ry
  obtain ⟨dd, z1, z2⟩ := dto_ok I e kk
  exact wpAny_in_heap (tupleKind_room_in1 hu) (key_is I hk) z2 dd ⟨.bl _, H, I.tok _, rfl, fin⟩
theorem op_notInDT (hu : X.A.units + 1 < cLine) : OpR X (compareOp .NotIn) (rNotInDT X.K) := by
  intro pins s σ H x y v u Q I rx ry h
  obtain ⟨p, b, n, xs, ks, rfl, rfl, e, kk, hk, fin⟩ := h
  cases rx; cases ry
  obtain ⟨dd, z1, z2⟩ := dto_ok I e kk
  exact wpAny_notIn_heap (tupleKind_room_in1 hu) (key_is I hk) z2 dd ⟨.bl _, H, I.tok _, rfl, fin⟩
theorem op_inDK (hu : X.A.units + 1 < cLine) : OpR X (compareOp .In) rInDK := by
  intro pins s σ H x y v u Q I rx ry h
  obtain ⟨a, o, rfl, g, fin⟩ := h
  cases ry
  exact d_in hu I g rx fun s' I' => ⟨.bl _, H, I', rfl, fin⟩
theorem op_notInDK (hu : X.A.units + 1 < cLine) : OpR X (compareOp .NotIn) rNotInDK := by
  intro pins s σ H x y v u Q I rx ry h
  obtain ⟨a, o, rfl, g, fin⟩ := h
  cases ry
  exact d_notIn hu I g rx fun s' I' => ⟨.bl _, H, I', rfl, fin⟩
/-- d[k] = v -/
def rSetDT (K : PySem.W.Frag) : V → V → V → Hp → (Hp → Prop) → Prop := fun o i v H Q => ∃ p b n xs ks, o = .ref p ∧ i = .ref b ∧ H p = some (DTO p (n, xs)) ∧ KeysIn K H xs ∧ SqT K H b (ks.map V.int) ∧ xs.length < sizeLine ∧ ∀ u n', RelV v u → Q (upd H p (DTO p (n', storedH xs ks b u)))
theorem set_dt (hu : X.A.units + 1 < cLine) : PSet X (rSetDT X.K) := by
  intro pins s σ H o i v ov iv u Q I ro ri rv h
  obtain ⟨p, b, n, xs, ks, rfl, rfl, e, kk, hk, hl, fin⟩ := h
  cases ro; cases ri
  obtain ⟨dd, z1, z2⟩ := dto_ok I e kk
  refine wpAny_setItem_heap (hsz := z1) (tupleKind_room_in1 hu) (key_is I hk) dd fun h' dd' hs => ?_
  have he : ∃ q, h'.get? p = some q := let ⟨q, _, _, hq, _⟩ := dd'; ⟨q, hq⟩
  obtain ⟨n', mk⟩ := dto_new dd' (Nat.le_trans (storedH_len xs ks b u) hl) z2
  exact ⟨_, d_write I (by rw [e]; exact True.intro) hs he (mk _), fin u n' rv⟩
def rSetDK : V → V → V → Hp → (Hp → Prop) → Prop := fun o i v H Q => ∃ p kvs k, o = .ref p ∧ i = kV k ∧ H p = some (.dK kvs) ∧ kvs.length < sizeLine ∧ Q (upd H p (.dK (putK kvs k v)))
theorem set_dk (hu : X.A.units + 1 < cLine) : PSet X rSetDK := by
  intro pins s σ H o i v ov iv u Q I ro ri rv h
  obtain ⟨p, kvs, k, rfl, rfl, e, hl, fin⟩ := h
  cases ro
  exact d_setItem hu I (DPut.k e hl) ri rv fun s' I' => ⟨_, I', fin⟩
def rOrS (r r' : V → V → V → Hp → (Hp → Prop) → Prop) : V → V → V → Hp → (Hp → Prop) → Prop := fun o i v H Q => r o i v H Q ∨ r' o i v H Q
theorem set_or {r r' : V → V → V → Hp → (Hp → Prop) → Prop} (h : PSet X r) (h' : PSet X r') : PSet X (rOrS r r') := by
  intro pins s σ H o i v ov iv u Q I ro ri rv q
  rcases q with q | q
  · exact h pins s σ H o i v ov iv u Q I ro ri rv q
  · exact h' pins s σ H o i v ov iv u Q I ro ri rv q
/-- d.get(k), d.get(k, x) -/
theorem dto_isD (I : Inv X pins σ H s) (e : H a = some (DTO a (n, xs))) (k : KeysIn X.K H xs) :
    s.TypeIs (.ref a) "dict" ∧ (∀ b, Value.ref a = .ref b → ∃ ob, s.heap.get? b = some ob ∧ ob.dict = none) ∧ (a == sysModules) = false := by
  obtain ⟨dd, z1, z2⟩ := dto_ok I e k
  refine ⟨dd.typeIs, fun b q => ?_, z2⟩
  cases q
  obtain ⟨ob, _, _, h1, h2, _⟩ := dd
  exact ⟨ob, h1, h2.2.1⟩
def tGet1 (td ty : TE) (K : PySem.W.Frag) : TE := fun σ H Q => td σ H fun x H1 => ∃ a, x = .ref a ∧ ((IsD H1 a ∧ ty σ H1 fun y H2 => ∃ o, DGet H2 a y o ∧ Q (o.getD .non) H2) ∨
  ∃ n xs, H1 a = some (DTO a (n, xs)) ∧ KeysIn K H1 xs ∧ ty σ H1 fun y H2 => ∃ b ks z, y = .ref b ∧ H2 a = some (DTO a (n, xs)) ∧ KeysIn K H2 xs ∧ SqT K H2 b (ks.map V.int) ∧ RelV z (((atKey xs ks).map (·.2)).getD .none) ∧ Q z H2)
def tGet2 (td ty tx : TE) (K : PySem.W.Frag) : TE := fun σ H Q => td σ H fun x H1 => ∃ a, x = .ref a ∧ ((IsD H1 a ∧ ty σ H1 fun y H2 => tx σ H2 fun z H3 => ∃ o, DGet H3 a y o ∧ Q (o.getD z) H3) ∨
  ∃ n xs, H1 a = some (DTO a (n, xs)) ∧ KeysIn K H1 xs ∧ ty σ H1 fun y H2 => tx σ H2 fun d H3 => ∃ b ks z, y = .ref b ∧ H3 a = some (DTO a (n, xs)) ∧ KeysIn K H3 xs ∧ SqT K H3 b (ks.map V.int) ∧ (∀ u, RelV d u → RelV z (((atKey xs ks).map (·.2)).getD u)) ∧ Q z H3)
end
section
variable {X : Cx} {o e f : Expr} {apos cpos : Pos} {td ty tx : TE}
theorem pe_get1 (hu : X.A.units + 1 < cLine) (ho : PE X o td) (he : PE X e ty) (m : M1 X o "get" apos e cpos) : PE X (.Call (.Attribute o "get" apos) [e] [] cpos) (tGet1 td ty X.K) := by
  refine ⟨fun pins s σ H Q I h => ?_⟩
  refine wpAny_Call_method m.base m.few m.line PySem.F.plainAttrs_dict PySem.F.slot_dict_get PySem.F.type_dict_get (thn (ho.run pins s σ H _ I h) fun u s1 ⟨x, H1, I1, rx, a, ex, q1⟩ => ?_)
  subst ex
  obtain rfl : u = Value.ref a := rx
  rw [m.trees]
  rcases q1 with ⟨d, q1⟩ | ⟨n, xs, e1, k1, q1⟩
  · obtain ⟨t1, t2, _⟩ := isD_at I1 d
    refine ⟨t1, t2, ?_⟩
    refine Calls.callWith_builtin rfl (Calls.evalArgs_plain (Calls.spliced_cons (thn (he.run pins s1 σ H1 _ I1 q1) fun iv s2 ⟨y, H2, I2, ry, ov, g, q2⟩ => Calls.spliced_nil ?_)))
    exact d_get1 hu I2 g ry fun w' s3 I3 rw' => ⟨_, H2, I3, rw', q2⟩
  · obtain ⟨t1, t2, _⟩ := dto_isD I1 e1 k1
    refine ⟨t1, t2, ?_⟩
    refine Calls.callWith_builtin rfl (Calls.evalArgs_plain (Calls.spliced_cons (thn (he.run pins s1 σ H1 _ I1 q1) fun iv s2 ⟨y, H2, I2, ry, b, ks, z, ey, e2, k2, hk, rz, q2⟩ => Calls.spliced_nil ?_)))
    subst ey
    cases (show iv = Value.ref b from ry)
    obtain ⟨dd, z1, z2⟩ := dto_ok I2 e2 k2
    exact call_meetsIn PySem.F.slot_dict_get dd.typeIs PySem.F.entry_dict_get (PySem.F.args_dict_get_2 _ _) (meetsH_dict_get (tk X.prog X.w) a b z2) ⟨tupleKind_room_in1 hu, ks, xs, key_is I2 hk, dd, ⟨z, H2, I2.tok _, rz, q2⟩⟩
theorem pe_get2 (hu : X.A.units + 1 < cLine) (ho : PE X o td) (he : PE X e ty) (hf : PE X f tx) (m : M2 X o "get" apos e f cpos) : PE X (.Call (.Attribute o "get" apos) [e, f] [] cpos) (tGet2 td ty tx X.K) := by
  refine ⟨fun pins s σ H Q I h => ?_⟩
  refine wpAny_Call_method m.base m.few m.line PySem.F.plainAttrs_dict PySem.F.slot_dict_get PySem.F.type_dict_get (thn (ho.run pins s σ H _ I h) fun u s1 ⟨x, H1, I1, rx, a, ex, q1⟩ => ?_)
  subst ex
  obtain rfl : u = Value.ref a := rx
  rw [m.trees]
  rcases q1 with ⟨d, q1⟩ | ⟨n, xs, e1, k1, q1⟩
  · obtain ⟨t1, t2, _⟩ := isD_at I1 d
    refine ⟨t1, t2, ?_⟩
    refine Calls.callWith_builtin rfl (Calls.evalArgs_plain (Calls.spliced_cons (thn (he.run pins s1 σ H1 _ I1 q1) fun iv s2 ⟨y, H2, I2, ry, q2⟩ =>
      Calls.spliced_cons (thn (hf.run pins s2 σ H2 _ I2 q2) fun fv s3 ⟨z, H3, I3, rz, ov, g, q3⟩ => Calls.spliced_nil ?_))))
    exact d_get2 hu I3 g ry rz fun w' s4 I4 rw' => ⟨_, H3, I4, rw', q3⟩
  · obtain ⟨t1, t2, _⟩ := dto_isD I1 e1 k1
    refine ⟨t1, t2, ?_⟩
    refine Calls.callWith_builtin rfl (Calls.evalArgs_plain (Calls.spliced_cons (thn (he.run pins s1 σ H1 _ I1 q1) fun iv s2 ⟨y, H2, I2, ry, q2⟩ =>
      Calls.spliced_cons (thn (hf.run pins s2 σ H2 _ I2 q2) fun fv s3 ⟨d, H3, I3, rd, b, ks, z, ey, e3, k3, hk, rz, q3⟩ => Calls.spliced_nil ?_))))
    subst ey
    cases (show iv = Value.ref b from ry)
    obtain ⟨dd, z1, z2⟩ := dto_ok I3 e3 k3
    exact call_meetsIn PySem.F.slot_dict_get dd.typeIs PySem.F.entry_dict_get (PySem.F.args_dict_get_3 _ _ _) (meetsH_dict_get_default (tk X.prog X.w) a b z2 fv) ⟨tupleKind_room_in1 hu, ks, xs, key_is I3 hk, dd, ⟨z, H3, I3.tok _, rz fv rd, q3⟩⟩
end
/-! displays -/
section
variable {X : Cx} {pos : Pos}
theorem dto_empty {P : Program} {w : World} {H : Hp} (h : Heap) (hb : sysModules < h.objs.size) : ObjOk P w H (h.push { cls := .type "dict", data := .dict #[] }) h.objs.size (DTO h.objs.size (0, [])) :=
  ⟨⟨_, #[], Heap.get?_push_size _ rfl, ⟨rfl, rfl, rfl⟩, rfl, rfl, List.nodup_nil, Nat.zero_le _, beq_eq_false_iff_ne.mpr (Ne.symm (Nat.ne_of_lt hb))⟩, ⟨_, Heap.get?_push_size _ rfl⟩, fun k1 k2 ⟨o, es, h1, r⟩ k => ⟨o, es, k _ h1, r⟩⟩
def tDNewO : TE := fun _ H Q => ∀ p, H p = none → Q (.ref p) (upd H p (DTO p (0, [])))
theorem pe_dnewO : PE X (.Dict [] [] pos) tDNewO := ⟨fun pins s σ H Q I h =>
  wpAny_Dict_empty ⟨.ref s.heap.objs.size, _, I.laid (a := s.heap.objs.size) (o := DTO s.heap.objs.size (0, [])) (t' := s.toks) (fun _ _ q => Heap.get?_push_of_some _ q) (Nat.le_refl _) (dto_empty s.heap I.big), rfl, h _ (I.hok.fresh (Nat.le_refl _))⟩⟩
/-- {k: v}, k a tuple of ints -/
def tDisp1 (K : PySem.W.Frag) (t1 t2 : TE) : TE := fun σ H Q => ∀ p, H p = none → t1 σ (upd H p (DTO p (0, []))) fun x H1 => t2 σ H1 fun y H2 => H2 p = some (DTO p (0, [])) ∧ ∃ b ks, x = .ref b ∧ SqT K H2 b (ks.map V.int) ∧ ∀ u n, RelV y u → Q (.ref p) (upd H2 p (DTO p (n, [(ks, b, u)])))
theorem pe_disp1 {k v : Expr} {t1 t2 : TE} (hu : X.A.units + 1 < cLine) (hk : PE X k t1) (hv : PE X v t2) : PE X (.Dict [some k] [v] pos) (tDisp1 X.K t1 t2) := by
  refine ⟨fun pins s σ H Q I q => ?_⟩
  have hn := I.hok.fresh (Nat.le_refl s.heap.objs.size)
  have I1 := I.laid (a := s.heap.objs.size) (o := DTO s.heap.objs.size (0, [])) (h' := s.heap.push { cls := .type "dict", data := .dict #[] }) (t' := s.toks) (fun _ _ q => Heap.get?_push_of_some _ q) (Nat.le_refl _) (dto_empty s.heap I.big)
  rw [arm_eval_Dict, zip_pairTrees [some k] [v] X.env pos rfl rfl, dictDisplay_pairs (pairTrees [some k] [v] X.env pos) (by simp [pairTrees]) (by simp [pairTrees])]
  refine wpAny_bind (wpAny_standAt (wpAny_bind (wpAny_subDictH (knd := tk X.prog X.w) (Q := fun d s' => wpAny (model X.prog X.w) X.A (pure (Value.ref d)) (EP X pins σ Q) X.xe s') (show X.A.units < cLine by omega) (by simp [pairTrees]) ?_)))
  refine pairTrees_cons_walk (thn (hk.run pins _ σ _ _ I1 (q _ hn)) fun kv s1 ⟨x, H1, I1, rx, q1⟩ => thn (hv.run pins s1 σ H1 _ I1 q1) fun vv s2 ⟨y, H2, I2, ry, e, b, ks, ex, hb, q2⟩ => pairTrees_nil_walk ?_)
  subst ex
  cases (show kv = Value.ref b from rx)
  obtain ⟨dd, z1, z2⟩ := dto_ok I2 e (fun x hx => absurd hx (by simp))
  refine ⟨[(ks, b, vv)], ⟨rfl, rfl, key_is I2 hb, True.intro⟩, dd, fun h' tk' dd' hs => ?_⟩
  have he : ∃ q, h'.get? s.heap.objs.size = some q := let ⟨q, _, _, hq, _⟩ := dd'; ⟨q, hq⟩
  obtain ⟨n', mk⟩ := dto_new dd' (by rw [sizeLine_eq]; show 1 ≤ 16777216; decide) z2
  exact wpAny_pure ⟨.ref _, _, d_write I2 (by rw [e]; exact True.intro) hs he (mk _), rfl, q2 vv n' ry⟩
end
end VL

namespace VL
open PySem PySem.Spec PyProof.Rows L2

/-! ## dicts as values -/
section
variable {κ : Type} [DecidableEq κ]
def dGet (kvs : List (κ × PyData)) (k : κ) : Option PyData := (kvs.find? fun p => decide (p.1 = k)).map (·.2)
def dPut (kvs : List (κ × PyData)) (k : κ) (d : PyData) : List (κ × PyData) :=
  if (kvs.any fun p => decide (p.1 = k)) = true then kvs.map (fun p => if p.1 = k then (p.1, d) else p) else kvs ++ [(k, d)]
def dDrop (kvs : List (κ × PyData)) (k : κ) : List (κ × PyData) := kvs.filter fun p => decide (p.1 ≠ k)
@[simp] theorem dGet_nil (k : κ) : dGet [] k = none := rfl
theorem dGet_cons (p : κ × PyData) (kvs : List (κ × PyData)) (k : κ) : dGet (p :: kvs) k = if p.1 = k then some p.2 else dGet kvs k := by
  unfold dGet
  by_cases h : p.1 = k <;> simp [List.find?_cons, h]
theorem dGet_any (kvs : List (κ × PyData)) (k : κ) : (kvs.any fun p => decide (p.1 = k)) = (dGet kvs k).isSome := by
  induction kvs with
  | nil => rfl
  | cons p kvs ih =>
    rw [List.any_cons, dGet_cons, ih]
    by_cases h : p.1 = k <;> simp [h]
theorem dGet_put (kvs : List (κ × PyData)) (k j : κ) (d : PyData) : dGet (dPut kvs k d) j = if j = k then some d else dGet kvs j := by
  unfold dPut
  by_cases a : (kvs.any fun p => decide (p.1 = k)) = true
  · rw [if_pos a]
    induction kvs with
    | nil => simp at a
    | cons p kvs ih =>
      rw [List.map_cons, dGet_cons, dGet_cons]
      by_cases h : p.1 = k
      · simp only [h, if_true]
        by_cases hj : k = j
        · simp [hj]
        · rw [if_neg hj, if_neg hj, if_neg (fun z => hj z.symm)]
          by_cases b : (kvs.any fun p => decide (p.1 = k)) = true
          · rw [ih b, if_neg (fun z => hj z.symm)]
          · congr 1
            have : kvs.map (fun p => if p.1 = k then (p.1, d) else p) = kvs.map id := by
              apply List.map_congr_left
              intro q hq
              have : ¬ q.1 = k := fun z => b (List.any_eq_true.mpr ⟨q, hq, by simp [z]⟩)
              simp [this]
            have h2 := this
            simp only [List.map_id] at h2
            exact h2
      · have b : (kvs.any fun p => decide (p.1 = k)) = true := by
          rw [List.any_cons] at a; simpa [h] using a
        simp only [h, if_false]
        rw [ih b]
        by_cases hj : p.1 = j
        · have : ¬ j = k := fun z => h (hj.trans z)
          simp [hj, this]
        · simp [hj]
  · rw [if_neg a]
    have n : dGet kvs k = none := by
      rw [dGet_any] at a
      cases e : dGet kvs k with
      | none => rfl
      | some x => rw [e] at a; simp at a
    clear a
    induction kvs with
    | nil => rw [List.nil_append, dGet_cons]; by_cases h : k = j <;> simp [h, eq_comm]
    | cons p kvs ih =>
      rw [List.cons_append, dGet_cons, dGet_cons]
      rw [dGet_cons] at n
      by_cases h : p.1 = k
      · simp [h] at n
      · rw [if_neg h] at n
        rw [ih n]
        by_cases hj : p.1 = j
        · have : ¬ j = k := fun z => h (hj.trans z)
          simp [hj, this]
        · simp [hj]
theorem dPut_new {kvs : List (κ × PyData)} {k : κ} (d : PyData) (h : dGet kvs k = none) : dPut kvs k d = kvs ++ [(k, d)] := by
  unfold dPut
  rw [dGet_any, h]
  rfl
theorem dPut_keys_old {kvs : List (κ × PyData)} {k : κ} (d : PyData) (h : (dGet kvs k).isSome = true) : (dPut kvs k d).map (·.1) = kvs.map (·.1) := by
  unfold dPut
  rw [dGet_any, if_pos h, List.map_map]
  apply List.map_congr_left
  intro p _
  by_cases e : p.1 = k <;> simp [e]
theorem dGet_drop (kvs : List (κ × PyData)) (k j : κ) : dGet (dDrop kvs k) j = if j = k then none else dGet kvs j := by
  unfold dDrop
  induction kvs with
  | nil => simp
  | cons p kvs ih =>
    rw [List.filter_cons, dGet_cons]
    by_cases h : p.1 = k
    · simp only [h, ne_eq, not_true, decide_false, Bool.false_eq_true, if_false]
      rw [ih]
      by_cases hj : k = j
      · simp [hj]
      · have : ¬ j = k := fun z => hj z.symm
        simp [hj, this]
    · simp only [h, ne_eq, not_false_eq_true, decide_true, if_true]
      rw [dGet_cons, ih]
      by_cases hj : p.1 = j
      · have : ¬ j = k := fun z => h (hj.trans z)
        simp [hj, this]
      · simp [hj]
end
def keyD : PyData → Option Key
  | .int i => some (.inl i)
  | .str x => some (.inr x)
  | _ => none
def keyTD : PyData → Option (List Int)
  | .tuple xs => intsD xs
  | _ => none
section
variable {K : PySem.W.Frag} {ca : Nat → Addr} {H0 F H : Hp} {v : V} {r : RV}
theorem keyD_ok {x : PyData} {k : Key} (h : Dq K F v x) (e : keyD x = some k) : v = kV k := by
  cases x with
  | int i => cases h; cases e; rfl
  | str i => cases h; cases e; rfl
  | _ => cases e
theorem keyTD_ok {x : PyData} {k : List Int} (h : Dq K F v x) (e : keyTD x = some k) : ∃ b, v = .ref b ∧ SqT K F b (k.map V.int) := by
  cases x with
  | tuple xs =>
    cases h with
    | tup h1 h2 =>
      have := ints_ok h2 e
      subst this
      exact ⟨_, rfl, h1⟩
  | _ => cases e
theorem KTl.keys {xs : List (List Int × Addr × Value)} {kvs : List (List Int × PyData)} (h : KTl K F xs kvs) (s : Same F H) : KeysIn K H xs := by
  induction h with
  | nil => intro x hx; simp at hx
  | cons h1 _ ih =>
    intro x hx
    rcases List.mem_cons.mp hx with rfl | hx
    · exact same_seqT s h1.2.1
    · exact ih x hx
theorem KTl.len {xs : List (List Int × Addr × Value)} {kvs : List (List Int × PyData)} (h : KTl K F xs kvs) : xs.length = kvs.length := Paired.length h
theorem atKey_cons (p : List Int × Addr × Value) (xs : List (List Int × Addr × Value)) (k : List Int) : atKey (p :: xs) k = if p.1 = k then some p.2 else atKey xs k := by
  unfold atKey
  by_cases h : p.1 = k <;> simp [List.find?_cons, h]
/-- what stands at a key, on both sides -/
theorem KTl.at {xs : List (List Int × Addr × Value)} {kvs : List (List Int × PyData)} (h : KTl K F xs kvs) (k : List Int) : (atKey xs k = none ∧ dGet kvs k = none) ∨ ∃ q d v, atKey xs k = some q ∧ dGet kvs k = some d ∧ RelV v q.2 ∧ Dq K F v d := by
  induction h with
  | nil => exact .inl ⟨rfl, rfl⟩
  | @cons p q ps qs h1 h2 ih =>
    rw [atKey_cons, dGet_cons, ← h1.1]
    by_cases e : p.1 = k
    · rw [if_pos e, if_pos e]
      obtain ⟨v, r1, r2⟩ := h1.2.2
      exact .inr ⟨_, _, v, rfl, rfl, r1, r2⟩
    · rw [if_neg e, if_neg e]; exact ih
theorem KTl.repl {xs : List (List Int × Addr × Value)} {kvs : List (List Int × PyData)} (h : KTl K F xs kvs) (k : List Int) {u : Value} {w : V} {d : PyData} (r : RelV w u) (dq : Dq K F w d) : KTl K F (xs.map (putAt k u)) (kvs.map fun p => if p.1 = k then (p.1, d) else p) := by
  induction h with
  | nil => exact .nil
  | @cons p q ps qs h1 h2 ih =>
    rw [List.map_cons, List.map_cons]
    refine .cons ?_ ih
    unfold putAt
    by_cases e : p.1 = k
    · rw [if_pos e, if_pos (h1.1.symm.trans e)]; exact ⟨h1.1, h1.2.1, w, r, dq⟩
    · rw [if_neg e, if_neg (fun z => e (h1.1.trans z))]; exact h1
theorem KTl.put {xs : List (List Int × Addr × Value)} {kvs : List (List Int × PyData)} (h : KTl K F xs kvs) (k : List Int) {b : Addr} {u : Value} {w : V} {d : PyData} (hb : SqT K F b (k.map V.int)) (r : RelV w u) (q : Dq K F w d) : KTl K F (storedH xs k b u) (dPut kvs k d) := by
  have e : (kvs.any fun p => decide (p.1 = k)) = (atKey xs k).isSome := by
    rw [dGet_any]
    rcases h.at k with ⟨a, b⟩ | ⟨q, d, v, a, b, _⟩ <;> rw [a, b] <;> rfl
  unfold storedH dPut
  rw [e]
  by_cases c : (atKey xs k).isSome = true
  · rw [if_pos c, if_pos c]; exact h.repl k r q
  · rw [if_neg c, if_neg c]; exact Paired.snoc h ⟨rfl, hb, w, r, q⟩
/-- keys ints and texts -/
theorem KD.at {xs : List (Key × V)} {kvs : List (Key × PyData)} (h : KD K F xs kvs) (k : Key) : (valV xs k = none ∧ dGet kvs k = none) ∨ ∃ v d, valV xs k = some v ∧ dGet kvs k = some d ∧ Dq K F v d := by
  induction h with
  | nil => exact .inl ⟨rfl, rfl⟩
  | @cons p q ps qs h1 h2 ih =>
    rw [dGet_cons, ← h1.1]
    by_cases e : p.1 = k
    · rw [if_pos e, valV_pos e]; exact .inr ⟨_, _, rfl, rfl, h1.2⟩
    · rw [if_neg e, valV_neg e]; exact ih
theorem KD.put {xs : List (Key × V)} {kvs : List (Key × PyData)} (h : KD K F xs kvs) (k : Key) {w : V} {d : PyData} (q : Dq K F w d) : KD K F (putK xs k w) (dPut kvs k d) := by
  have e : (kvs.any fun p => decide (p.1 = k)) = (xs.any fun p => decide (p.1 = k)) := by
    rw [dGet_any, valV_any]
    rcases h.at k with ⟨a, b⟩ | ⟨q, d, a, b, _⟩ <;> rw [a, b] <;> rfl
  unfold putK dPut
  rw [e]
  by_cases c : (xs.any fun p => decide (p.1 = k)) = true
  · rw [if_pos c, if_pos c]
    clear e c
    induction h with
    | nil => exact .nil
    | @cons p r ps qs h1 h2 ih =>
      rw [List.map_cons, List.map_cons]
      refine .cons ?_ ih
      by_cases e : p.1 = k
      · rw [if_pos e, if_pos (h1.1.symm.trans e)]; exact ⟨h1.1, q⟩
      · rw [if_neg e, if_neg (fun z => e (h1.1.trans z))]; exact h1
  · rw [if_neg c, if_neg c]; exact Paired.snoc h ⟨rfl, q⟩
theorem KD.drop {xs : List (Key × V)} {kvs : List (Key × PyData)} (h : KD K F xs kvs) (k : Key) : KD K F (dropK xs k) (dDrop kvs k) := by
  unfold dropK dDrop
  induction h with
  | nil => exact .nil
  | @cons p r ps qs h1 h2 ih =>
    rw [List.filter_cons, List.filter_cons, ← h1.1]
    by_cases e : p.1 = k
    · simp only [e, ne_eq, not_true, decide_false, Bool.false_eq_true, if_false]; exact ih
    · simp only [e, ne_eq, not_false_eq_true, decide_true, if_true]; exact .cons h1 ih
/-! ### d[k], k in d -/
def RV.dk : RV → Option (List (Key × PyData))
  | .od kvs => some kvs
  | .bd kvs => some kvs
  | _ => none
def RV.dt : RV → Option (List (List Int × PyData))
  | .ot kvs => some kvs
  | .bt kvs => some kvs
  | _ => none
theorem dk_ok {kvs : List (Key × PyData)} (h : RVok K H0 F H v r) (e : r.dk = some kvs) : ∃ p xs, v = .ref p ∧ H p = some (.dK xs) ∧ KD K F xs kvs := by
  cases r with
  | od ys => cases e; obtain ⟨p, vs, e1, _, _, hp, q⟩ := h; exact ⟨p, vs, e1, hp, q⟩
  | bd ys => cases e; obtain ⟨p, vs, e1, hp, q⟩ := h; exact ⟨p, vs, e1, hp, q⟩
  | _ => cases e
theorem dt_ok {kvs : List (List Int × PyData)} (h : RVok K H0 F H v r) (e : r.dt = some kvs) : ∃ p n xs, v = .ref p ∧ H p = some (DTO p (n, xs)) ∧ KTl K F xs kvs := by
  cases r with
  | ot ys => cases e; obtain ⟨p, ⟨n, vs⟩, e1, _, _, hp, q⟩ := h; exact ⟨p, n, vs, e1, hp, q⟩
  | bt ys => cases e; obtain ⟨p, ⟨n, vs⟩, e1, hp, q⟩ := h; exact ⟨p, n, vs, e1, hp, q⟩
  | _ => cases e
def RV.sd : RV → Option PyData
  | .d x => some x
  | _ => none
theorem sd_ok {x : PyData} (h : RVok K H0 F H v r) (e : r.sd = some x) : Dq K F v x := by
  cases r with
  | d y => cases e; exact h
  | _ => cases e
def gGetDK (kvs : List (Key × PyData)) (b : RV) : Rs (Option PyData) := (rsO (b.sd.bind keyD)).bind fun k => .ok (dGet kvs k)
def gGetDT (kvs : List (List Int × PyData)) (b : RV) : Rs (Option PyData) := (rsO (b.sd.bind keyTD)).bind fun k => .ok (dGet kvs k)
/-- what a dict holds at a key -/
def gAt (a b : RV) : Rs (Option PyData) := match a.dk with
  | some kvs => gGetDK kvs b
  | none => (match a.dt with
    | some kvs => gGetDT kvs b
    | none => .no)
theorem gAt_ok {v1 v2 : V} {a b : RV} {o : Option PyData} (s : Same F H) (h1 : RVok K H0 F H v1 a) (h2 : RVok K H0 F H v2 b) (e : gAt a b = .ok o) :
    (∃ p z, v1 = .ref p ∧ DGet H p v2 z ∧ ((z = none ∧ o = none) ∨ ∃ w d, z = some w ∧ o = some d ∧ Dq K F w d)) ∨
    (∃ p c n xs ks, v1 = .ref p ∧ v2 = .ref c ∧ H p = some (DTO p (n, xs)) ∧ KeysIn K H xs ∧ SqT K H c (ks.map V.int) ∧ ((atKey xs ks = none ∧ o = none) ∨ ∃ q d w, atKey xs ks = some q ∧ o = some d ∧ RelV w q.2 ∧ Dq K F w d)) := by
  unfold gAt at e
  cases e1 : a.dk with
  | some kvs =>
    rw [e1] at e
    obtain ⟨p, xs, rfl, hp, kd⟩ := dk_ok h1 e1
    simp only [gGetDK] at e
    cases e2 : b.sd with
    | none => rw [e2] at e; cases e
    | some x =>
      rw [e2] at e
      simp only [Option.bind_some] at e
      cases e3 : keyD x with
      | none => rw [e3] at e; cases e
      | some k =>
        rw [e3] at e
        simp only [rsO_some, Rs.bind_ok, Rs.ok.injEq] at e
        subst e
        obtain rfl := keyD_ok (sd_ok h2 e2) e3
        refine .inl ⟨p, _, rfl, DGet.k hp, ?_⟩
        rcases kd.at k with h | ⟨w, d, h⟩
        · exact .inl h
        · exact .inr ⟨w, d, h⟩
  | none =>
    rw [e1] at e
    simp only at e
    cases e4 : a.dt with
    | none => rw [e4] at e; cases e
    | some kvs =>
      rw [e4] at e
      obtain ⟨p, n, xs, rfl, hp, kd⟩ := dt_ok h1 e4
      simp only [gGetDT] at e
      cases e2 : b.sd with
      | none => rw [e2] at e; cases e
      | some x =>
        rw [e2] at e
        simp only [Option.bind_some] at e
        cases e3 : keyTD x with
        | none => rw [e3] at e; cases e
        | some k =>
          rw [e3] at e
          simp only [rsO_some, Rs.bind_ok, Rs.ok.injEq] at e
          subst e
          obtain ⟨c, rfl, hc⟩ := keyTD_ok (sd_ok h2 e2) e3
          exact .inr ⟨p, c, n, xs, k, rfl, rfl, hp, kd.keys s, same_seqT s hc, kd.at k⟩
def gIxD (a b : RV) : Rs RV := (gAt a b).bind fun o => (rsO o).bind fun d => .ok (.d d)
def gInD (a b : RV) : Rs RV := (gAt b a).bind fun o => okB o.isSome
def gNotInD (a b : RV) : Rs RV := (gAt b a).bind fun o => okB (!o.isSome)
theorem gAt_ex {a b : RV} {c : Nat} {fs : List (Str × PyData)} : gAt a b ≠ .ex c fs := fun e => by
  unfold gAt gGetDK gGetDT at e
  split at e
  · cases e2 : b.sd.bind keyD <;> rw [e2] at e <;> cases e
  · split at e
    · cases e2 : b.sd.bind keyTD <;> rw [e2] at e <;> cases e
    · cases e
theorem s_ixD : Op2S K ca (fun x y H Q => rIxDK x y H Q ∨ rIxDT K x y H Q) gIxD := by
  intro W σ F0 H0 F H v1 v2 a b Q gr h1 h2 p
  unfold gIxD at p
  cases e : gAt a b with
  | no => rw [e] at p; exact p.elim
  | ex c fs => exact absurd e gAt_ex
  | ok o =>
    rw [e] at p
    rcases gAt_ok gr.cfg.sub h1 h2 e with ⟨q, z, rfl, g, hz⟩ | ⟨q, c, n, xs, ks, rfl, rfl, hp, kk, hk, hz⟩
    · rcases hz with ⟨rfl, rfl⟩ | ⟨w, d, rfl, rfl, dq⟩
      · exact p.elim
      · exact .inl ⟨q, w, rfl, g, p F H _ gr dq⟩
    · rcases hz with ⟨_, rfl⟩ | ⟨q', d, w, hq, rfl, rw', dq⟩
      · exact p.elim
      · exact .inr ⟨q, c, n, xs, ks, q', w, rfl, rfl, hp, kk, hk, hq, rw', p F H _ gr dq⟩
theorem s_inD : Op2S K ca (rOr rInDK (rInDT K)) gInD := by
  intro W σ F0 H0 F H v1 v2 a b Q gr h1 h2 p
  unfold gInD at p
  cases e : gAt b a with
  | no => rw [e] at p; exact p.elim
  | ex c fs => exact absurd e gAt_ex
  | ok o =>
    rw [e] at p
    rcases gAt_ok gr.cfg.sub h2 h1 e with ⟨q, z, rfl, g, hz⟩ | ⟨q, c, n, xs, ks, rfl, rfl, hp, kk, hk, hz⟩
    · refine .inl ⟨q, z, rfl, g, ?_⟩
      rcases hz with ⟨rfl, rfl⟩ | ⟨w, d, rfl, rfl, dq⟩ <;> exact p F H _ gr (.bl _)
    · refine .inr ⟨q, c, n, xs, ks, rfl, rfl, hp, kk, hk, ?_⟩
      rcases hz with ⟨e1, rfl⟩ | ⟨q', d, w, hq, rfl, rw', dq⟩
      · rw [e1]; exact p F H _ gr (.bl _)
      · rw [hq]; exact p F H _ gr (.bl _)
theorem s_notInD : Op2S K ca (rOr rNotInDK (rNotInDT K)) gNotInD := by
  intro W σ F0 H0 F H v1 v2 a b Q gr h1 h2 p
  unfold gNotInD at p
  cases e : gAt b a with
  | no => rw [e] at p; exact p.elim
  | ex c fs => exact absurd e gAt_ex
  | ok o =>
    rw [e] at p
    rcases gAt_ok gr.cfg.sub h2 h1 e with ⟨q, z, rfl, g, hz⟩ | ⟨q, c, n, xs, ks, rfl, rfl, hp, kk, hk, hz⟩
    · refine .inl ⟨q, z, rfl, g, ?_⟩
      rcases hz with ⟨rfl, rfl⟩ | ⟨w, d, rfl, rfl, dq⟩ <;> exact p F H _ gr (.bl _)
    · refine .inr ⟨q, c, n, xs, ks, rfl, rfl, hp, kk, hk, ?_⟩
      rcases hz with ⟨e1, rfl⟩ | ⟨q', d, w, hq, rfl, rw', dq⟩
      · rw [e1]; exact p F H _ gr (.bl _)
      · rw [hq]; exact p F H _ gr (.bl _)
end
section
variable {ca : Nat → Addr} {W : WX} {X : Cx} {a b e : Expr} {es : List Expr} {fa fb fc : VEnv → Rs RV} {pos apos cpos : Pos}
theorem ix_d (hu : X.A.units + 1 < cLine) : IxR X (fun x y H Q => rIxDK x y H Q ∨ rIxDT X.K x y H Q) := (ix_dk hu).or (ix_dt hu)
theorem op_inD2 (hu : X.A.units + 1 < cLine) : OpR X (compareOp .In) (rOr rInDK (rInDT X.K)) := op_or' (op_inDK hu) (op_inDT hu)
theorem op_notInD2 (hu : X.A.units + 1 < cLine) : OpR X (compareOp .NotIn) (rOr rNotInDK (rNotInDT X.K)) := op_or' (op_notInDK hu) (op_notInDT hu)
theorem hu1 {A : Around} {k : Nat} (hr : Room k A) : A.units + 1 < cLine := by have := hr.un; omega
/-! ### {} -/
def cDT : VEnv → Rs RV := fun _ => .ok (.ot [])
def cDK : VEnv → Rs RV := fun _ => .ok (.od [])
theorem ve_dnewT : VE ca W X (.Dict [] [] pos) cDT := by
  refine ⟨_, pe_dnewO, fun B F env σ H Q st p q n => ?_⟩
  have g := Grow.newO st.cfg (DTO q (0, [])) n DTO_tup
  exact p _ _ _ g ⟨q, (0, []), rfl, n, same_none st.cfg.sub n, upd_same, .nil⟩
theorem ve_dnewK : VE ca W X (.Dict [] [] pos) cDK := by
  refine ⟨_, pe_dnewK, fun B F env σ H Q st p q n => ?_⟩
  have g := Grow.newO st.cfg (.dK []) n (fun _ z => by cases z)
  exact p _ _ _ g ⟨q, [], rfl, n, same_none st.cfg.sub n, upd_same, .nil⟩
/-- {k: v} -/
def cDisp1 (fa fb : VEnv → Rs RV) : VEnv → Rs RV := fun env => (fa env).bind fun x => (fb env).bind fun y => (rsO (x.sd.bind keyTD)).bind fun k => (rsO y.toD).bind fun d => .ok (.ot [(k, d)])
theorem ve_disp1 (hu : X.A.units + 1 < cLine) (ha : VE ca W X a fa) (hb : VE ca W X b fb) : VE ca W X (.Dict [some a] [b] pos) (cDisp1 fa fb) := by
  obtain ⟨ta, pa, sa⟩ := ha
  obtain ⟨tb, pb, sb⟩ := hb
  refine ⟨_, pe_disp1 hu pa pb, fun B F env σ H Q st p q n => ?_⟩
  have g := Grow.newO st.cfg (DTO q (0, [])) n DTO_tup
  have st0 := st.grow g
  refine seqE (PostE X.K ca W σ F H Q) sa st0 p (fun _ _ h => PostX.mono g h) (fun h => h) fun x F1 H1 v1 p1 g1 q1 => ?_
  refine seqE (PostE X.K ca W σ F H Q) sb (st0.grow g1) p1 (fun _ _ h => PostX.mono (g.trans g1) h) (fun h => h) fun y F2 H2 v2 p2 g2 q2 => ?_
  have hq : H2 q = some (DTO q (0, [])) := (g1.trans g2).hh _ _ upd_same
  cases e1 : x.sd with
  | none => rw [e1] at p2; exact p2.elim
  | some d1 =>
    rw [e1] at p2
    simp only [Option.bind_some] at p2
    cases e2 : keyTD d1 with
    | none => rw [e2] at p2; exact p2.elim
    | some k =>
      rw [e2] at p2
      simp only [rsO_some, Rs.bind_ok] at p2
      cases e3 : y.toD with
      | none => rw [e3] at p2; exact p2.elim
      | some d2 =>
        rw [e3] at p2
        simp only [rsO_some, Rs.bind_ok] at p2
        obtain ⟨c, rfl, hc⟩ := keyTD_ok (sd_ok (q1.grow g2) e1) e2
        obtain ⟨F3, g3, s3, q3⟩ := frz g2 (Fz.of q2 e3)
        have f1 : F1 q = none := g1.stillFree (same_none st.cfg.sub n) upd_same
        have f3 : F3 q = none := g3.stillFree f1 (g1.hh _ _ upd_same)
        have hc3 := same_seqT s3 hc
        refine ⟨hq, c, k, rfl, same_seqT g3.cfg.sub hc3, fun u n' ru => ?_⟩
        exact p2 _ _ _ ((g.trans (g1.trans g3)).write n f3 hq DTO_tup) ⟨q, (n', [(k, c, u)]), rfl, n, f3, upd_same, .cons ⟨rfl, hc3, v2, ru, q3⟩ .nil⟩
/-- {"a": "b", "c": "d"} -/
def cDispS (x y z w : Str) : VEnv → Rs RV := fun _ => .ok (.od [(.inr x, .str y), (.inr z, .str w)])
theorem ve_dispS {x y z w : Str} {k1 k2 k3 k4 : Nat} {p1 p2 p3 p4 : Pos} (hne : x ≠ z) : VE ca W X (.Dict [some (.Constant (.str x) k1 p1), some (.Constant (.str z) k2 p2)] [.Constant (.str y) k3 p3, .Constant (.str w) k4 p4] pos) (cDispS x y z w) := by
  refine ⟨_, pe_disp (pps_cons pe_str pe_str (pps_cons pe_str pe_str pps_nil)) rfl rfl (by simp) (by simp), fun B F env σ H Q st p q n => ?_⟩
  have g := Grow.newO st.cfg (.dK []) n (fun _ z => by cases z)
  have nF := same_none st.cfg.sub n
  refine ⟨upd_same, [(.inr x, .str y), (.inr z, .str w)], rfl, by simp, ?_⟩
  have e : mergeK [] [((.inr x : Key), V.str y), (.inr z, .str w)] = [((.inr x : Key), V.str y), (.inr z, .str w)] := by
    have h2 : ¬ ((Sum.inr x : Key) = .inr z) := fun h => hne (by injection h)
    show putK (putK [] (Sum.inr x) (V.str y)) (Sum.inr z) (V.str w) = _
    have h1 : putK [] (Sum.inr x : Key) (V.str y) = [(Sum.inr x, V.str y)] := rfl
    rw [h1, putK_new _ (by rw [valV_neg h2]; rfl)]
    rfl
  rw [e]
  exact p _ _ _ (g.write n nF upd_same (fun _ z => by cases z)) ⟨q, _, rfl, n, nF, upd_same, .cons ⟨rfl, .str _⟩ (.cons ⟨rfl, .str _⟩ .nil)⟩
/-! ### d[k] = e, xs[i] = e -/
/-- the store into a dict or a list of the def's own -/
def stR (r0 : RV) (ix : RV) (d : PyData) : Rs RV := match r0 with
  | .ol xs => (match ix with
    | .d (.int k) => (rsO (ixN xs.length k)).bind fun j => .ok (.ol (xs.set j d))
    | _ => .no)
  | .od kvs => (rsO (ix.sd.bind keyD)).bind fun k => if kvs.length ≤ 1000000 then .ok (.od (dPut kvs k d)) else .no
  | .ot kvs => (rsO (ix.sd.bind keyTD)).bind fun k => if kvs.length ≤ 1000000 then .ok (.ot (dPut kvs k d)) else .no
  | _ => .no
def sStoreA (i : Nat) (fi fe : VEnv → Rs RV) : VEnv → Out := fun env => match env[i]? with
  | some (some r0) => (fe env).out env fun r => (fi env).out env fun ix => (rsO r.toD).out env fun d => (stR r0 ix d).out env fun r1 => .nx (env.set i (some r1))
  | _ => .no
theorem vs_storeA (i : Nat) {x : Str} {ie : Expr} {p1 p2 : Pos} {fi : VEnv → Rs RV} (hu : X.A.units + 1 < cLine) (he : VE ca W X e fa) (hi : VE ca W X ie fi) (hN : X.N[i]? = some x := by rfl) (hv : Vis X.env.scope x := by first | exact Or.inl rfl | exact Or.inr (Or.inl rfl) | exact Or.inr (Or.inr rfl)) (hd : (x == ("__debug__" : Str)) = false := by decide) (hcd : (x == ("__classdict__" : Str)) = false := by decide)
    (ha : ∀ v, assign (.Subscript (.Name x p1) ie p2) X.env v = (do
      let ov ← holding [v] (eval (.Name x p1) X.env)
      let iv ← holding [v, ov] (eval ie X.env)
      standAt p2
      holding [v, ov, iv] (setItem ov iv v)
      release [v, ov, iv] []) := by intro _; rfl)
    (hs : swapsWithSole [.Subscript (.Name x p1) ie p2] e pos.line X.env = pure false := by rfl) (hw : swappedStores [.Subscript (.Name x p1) ie p2] e X.env = pure none := by rfl)
    (h1 : (assignEach [.Subscript (.Name x p1) ie p2] X.env).map (·.2) = [assign (.Subscript (.Name x p1) ie p2) X.env] := by rfl) :
    VS ca W X (.Assign [.Subscript (.Name x p1) ie p2] e pos) (sStoreA i fi fa) := by
  obtain ⟨t, pe, se⟩ := he
  obtain ⟨ti, pi, si⟩ := hi
  refine ⟨_, ps_asg pe (pg_sub (pe_var hN hv hd hcd) pi (set_or set_list (set_or (set_dk hu) (set_dt hu))) ha) hs hw h1, fun B F env σ H D st p => ?_⟩
  show t σ H fun v H1 => ∃ o, σ[i]? = some (some o) ∧ ti σ H1 fun iv H3 => rOrS rSetL (rOrS rSetDK (rSetDT X.K)) o iv v H3 fun H4 => D.nx σ H4
  unfold sStoreA at p
  split at p
  · rename_i r0 e1
    obtain ⟨v0, s1, ok0⟩ := st.sl i r0 e1
    refine outE se st p fun r F1 H1 v p1 g q1 => ⟨_, s1, ?_⟩
    refine outE si (st.grow g) p1 fun ix F2 H2 w p2 g2 q2 => ?_
    cases e2 : r.toD with
    | none => rw [e2] at p2; exact p2.elim
    | some d =>
      rw [e2] at p2
      simp only [rsO_some, Rs.out_ok] at p2
      obtain ⟨F3, g3, s3, q3⟩ := frz (g.trans g2) (Fz.of (q1.grow g2) e2)
      cases r0 with
      | ol xs =>
        obtain ⟨a, vs, rfl, n0, f0, hp, q⟩ := ok0
        have hp3 := g3.hh _ _ hp
        have f3 := g3.stillFree f0 hp
        cases ix with
        | d y =>
          cases y with
          | int k =>
            simp only [stR] at p2
            cases e3 : ixN xs.length k with
            | none => rw [e3] at p2; exact p2.elim
            | some j =>
              rw [e3] at p2
              cases q2
              refine .inl ⟨a, vs, k, j, rfl, rfl, hp3, by rw [q.length]; exact e3, ?_⟩
              exact p2 F3 σ _ s3 ((st.grow g3).write (r1 := .ol (xs.set j d)) e1 rfl s1 hp3 n0 f3 (fun _ z => by cases z) ⟨a, _, rfl, n0, f3, upd_same, DqA.set q3 j (DqA.mono g3.ff _ _ q)⟩ rfl)
          | _ => exact p2.elim
        | _ => exact p2.elim
      | od kvs =>
        obtain ⟨a, vs, rfl, n0, f0, hp, q⟩ := ok0
        have hp3 := g3.hh _ _ hp
        have f3 := g3.stillFree f0 hp
        simp only [stR] at p2
        cases e4 : ix.sd with
        | none => rw [e4] at p2; exact p2.elim
        | some y =>
          rw [e4] at p2
          simp only [Option.bind_some] at p2
          cases e5 : keyD y with
          | none => rw [e5] at p2; exact p2.elim
          | some k =>
            rw [e5] at p2
            simp only [rsO_some, Rs.bind_ok] at p2
            split at p2
            · rename_i hz
              obtain rfl := keyD_ok (sd_ok q2 e4) e5
              refine .inr (.inl ⟨a, vs, k, rfl, rfl, hp3, by rw [q.length]; exact million hz, ?_⟩)
              exact p2 F3 σ _ s3 ((st.grow g3).write (r1 := .od (dPut kvs k d)) e1 rfl s1 hp3 n0 f3 (fun _ z => by cases z) ⟨a, _, rfl, n0, f3, upd_same, (q.mono g3.ff).put k q3⟩ rfl)
            · exact p2.elim
      | ot kvs =>
        obtain ⟨a, ⟨n, vs⟩, rfl, n0, f0, hp, q⟩ := ok0
        have hp3 := g3.hh _ _ hp
        have f3 := g3.stillFree f0 hp
        simp only [stR] at p2
        cases e4 : ix.sd with
        | none => rw [e4] at p2; exact p2.elim
        | some y =>
          rw [e4] at p2
          simp only [Option.bind_some] at p2
          cases e5 : keyTD y with
          | none => rw [e5] at p2; exact p2.elim
          | some k =>
            rw [e5] at p2
            simp only [rsO_some, Rs.bind_ok] at p2
            split at p2
            · rename_i hz
              obtain ⟨c, rfl, hc⟩ := keyTD_ok (sd_ok q2 e4) e5
              have q' : KTl X.K F3 vs kvs := q.mono g3.ff
              have hc3 := same_seqT s3 hc
              refine .inr (.inr ⟨a, c, n, vs, k, rfl, rfl, hp3, q'.keys g3.cfg.sub, same_seqT g3.cfg.sub hc3, by rw [q'.len]; exact million hz, fun u n' ru => ?_⟩)
              exact p2 F3 σ _ s3 ((st.grow g3).write (r1 := .ot (dPut kvs k d)) e1 rfl s1 hp3 n0 f3 DTO_tup ⟨a, (n', _), rfl, n0, f3, upd_same, q'.put k hc3 ru q3⟩ rfl)
            · exact p2.elim
      | _ => exact p2.elim
  · exact p.elim
/-- del d[k] -/
def sDel (i : Nat) (fi : VEnv → Rs RV) : VEnv → Out := fun env => match env[i]? with
  | some (some (.od kvs)) => (fi env).out env fun ix => (rsO (ix.sd.bind keyD)).out env fun k => if (dGet kvs k).isSome = true then .nx (env.set i (some (.od (dDrop kvs k)))) else .no
  | _ => .no
theorem vs_del (i : Nat) {x : Str} {ie : Expr} {p1 p2 : Pos} {fi : VEnv → Rs RV} (hi : VE ca W X ie fi) (hN : X.N[i]? = some x := by rfl) (hv : Vis X.env.scope x := by first | exact Or.inl rfl | exact Or.inr (Or.inl rfl) | exact Or.inr (Or.inr rfl)) (hd : (x == ("__debug__" : Str)) = false := by decide) (hcd : (x == ("__classdict__" : Str)) = false := by decide) :
    VS ca W X (.Delete [.Subscript (.Name x p1) ie p2] pos) (sDel i fi) := by
  obtain ⟨ti, pi, si⟩ := hi
  refine ⟨_, ps_ddel (pe_var hN hv hd hcd) pi, fun B F env σ H D st p => ?_⟩
  show ∃ v, σ[i]? = some (some v) ∧ ti σ H fun y H2 => ∃ a kvs k, v = .ref a ∧ H2 a = some (.dK kvs) ∧ y = kV k ∧ (valV kvs k).isSome = true ∧ D.nx σ (upd H2 a (.dK (dropK kvs k)))
  unfold sDel at p
  split at p
  · rename_i kvs e1
    obtain ⟨v0, s1, a, vs, rfl, n0, f0, hp, q⟩ := st.sl i _ e1
    refine ⟨_, s1, ?_⟩
    refine outE si st p fun ix F2 H2 w p2 g2 q2 => ?_
    cases e4 : ix.sd with
    | none => rw [e4] at p2; exact p2.elim
    | some y =>
      rw [e4] at p2
      simp only [Option.bind_some] at p2
      cases e5 : keyD y with
      | none => rw [e5] at p2; exact p2.elim
      | some k =>
        rw [e5] at p2
        simp only [rsO_some, Rs.out_ok] at p2
        split at p2
        · rename_i hz
          obtain rfl := keyD_ok (sd_ok q2 e4) e5
          have hp2 := g2.hh _ _ hp
          have f2 := g2.stillFree f0 hp
          have q' := q.mono g2.ff
          refine ⟨a, vs, k, rfl, hp2, rfl, ?_, ?_⟩
          · rcases q'.at k with ⟨_, h⟩ | ⟨w, d, h, _⟩
            · rw [h] at hz; cases hz
            · rw [h]; rfl
          · exact p2 F2 σ _ (Same.refl _) ((st.grow g2).write (r1 := .od (dDrop kvs k)) e1 rfl s1 hp2 n0 f2 (fun _ z => by cases z) ⟨a, _, rfl, n0, f2, upd_same, q'.drop k⟩ rfl)
        · exact p2.elim
  · exact p.elim
/-! ### d.get -/
theorem gGetDK_ok {K : PySem.W.Frag} {H0 F H : Hp} {v : V} {y : RV} {kvs : List (Key × PyData)} {o : Option PyData} (h : RVok K H0 F H v y) (e : gGetDK kvs y = .ok o) : ∃ k, v = kV k ∧ o = dGet kvs k := by
  unfold gGetDK at e
  cases e2 : y.sd with
  | none => rw [e2] at e; cases e
  | some x =>
    rw [e2] at e
    simp only [Option.bind_some] at e
    cases e3 : keyD x with
    | none => rw [e3] at e; cases e
    | some k =>
      rw [e3] at e
      simp only [rsO_some, Rs.bind_ok, Rs.ok.injEq] at e
      exact ⟨k, keyD_ok (sd_ok h e2) e3, e.symm⟩
theorem gGetDT_ok {K : PySem.W.Frag} {H0 F H : Hp} {v : V} {y : RV} {kvs : List (List Int × PyData)} {o : Option PyData} (h : RVok K H0 F H v y) (e : gGetDT kvs y = .ok o) : ∃ c ks, v = .ref c ∧ SqT K F c (ks.map V.int) ∧ o = dGet kvs ks := by
  unfold gGetDT at e
  cases e2 : y.sd with
  | none => rw [e2] at e; cases e
  | some x =>
    rw [e2] at e
    simp only [Option.bind_some] at e
    cases e3 : keyTD x with
    | none => rw [e3] at e; cases e
    | some k =>
      rw [e3] at e
      simp only [rsO_some, Rs.bind_ok, Rs.ok.injEq] at e
      obtain ⟨c, rfl, hc⟩ := keyTD_ok (sd_ok h e2) e3
      exact ⟨c, k, rfl, hc, e.symm⟩
theorem gGetDK_ex {y : RV} {kvs : List (Key × PyData)} {c : Nat} {fs : List (Str × PyData)} : gGetDK kvs y ≠ .ex c fs := fun e => by
  unfold gGetDK at e
  cases e2 : y.sd.bind keyD <;> rw [e2] at e <;> cases e
theorem gGetDT_ex {y : RV} {kvs : List (List Int × PyData)} {c : Nat} {fs : List (Str × PyData)} : gGetDT kvs y ≠ .ex c fs := fun e => by
  unfold gGetDT at e
  cases e2 : y.sd.bind keyTD <;> rw [e2] at e <;> cases e
def cGet1 (fa fb : VEnv → Rs RV) : VEnv → Rs RV := fun env => (fa env).bind fun x => match x.dk with
  | some kvs => (fb env).bind fun y => (gGetDK kvs y).bind fun o => .ok (.d (o.getD .none))
  | none => (match x.dt with
    | some kvs => (fb env).bind fun y => (gGetDT kvs y).bind fun o => .ok (.d (o.getD .none))
    | none => .no)
def cGet2 (fa fb fc : VEnv → Rs RV) : VEnv → Rs RV := fun env => (fa env).bind fun x => match x.dk with
  | some kvs => (fb env).bind fun y => (fc env).bind fun z => (rsO z.sd).bind fun d => (gGetDK kvs y).bind fun o => .ok (.d (o.getD d))
  | none => (match x.dt with
    | some kvs => (fb env).bind fun y => (fc env).bind fun z => (rsO z.sd).bind fun d => (gGetDT kvs y).bind fun o => .ok (.d (o.getD d))
    | none => .no)
theorem ve_get1 (hu : X.A.units + 1 < cLine) (ha : VE ca W X a fa) (hb : VE ca W X b fb) (m : M1 X a "get" apos b cpos) : VE ca W X (.Call (.Attribute a "get" apos) [b] [] cpos) (cGet1 fa fb) := by
  obtain ⟨ta, pa, sa⟩ := ha
  obtain ⟨tb, pb, sb⟩ := hb
  refine ⟨_, pe_get1 hu pa pb m, fun B F env σ H Q st p => ?_⟩
  unfold tGet1
  refine seqE (PostE X.K ca W σ F H Q) sa st p (fun _ _ h => h) (fun h => h) fun x F1 H1 v1 p1 g1 q1 => ?_
  cases e1 : x.dk with
  | some kvs =>
    rw [e1] at p1
    obtain ⟨p', xs, rfl, hp, kd⟩ := dk_ok q1 e1
    refine ⟨p', rfl, .inl ⟨.inl ⟨xs, .inl hp⟩, ?_⟩⟩
    refine seqE (PostE X.K ca W σ F H Q) sb (st.grow g1) p1 (fun _ _ h => PostX.mono g1 h) (fun h => h) fun y F2 H2 v2 p2 g2 q2 => ?_
    cases e : gGetDK kvs y with
    | no => rw [e] at p2; exact p2.elim
    | ex c fs => exact absurd e gGetDK_ex
    | ok o =>
      rw [e] at p2
      obtain ⟨k, rfl, rfl⟩ := gGetDK_ok q2 e
      refine ⟨_, DGet.k (g2.hh _ _ hp), ?_⟩
      rcases (kd.mono g2.ff).at k with ⟨h1, h2⟩ | ⟨w, d, h1, h2, dq⟩
      · rw [h2] at p2; rw [h1]; exact p2 F2 H2 _ (g1.trans g2) .non
      · rw [h2] at p2; rw [h1]; exact p2 F2 H2 _ (g1.trans g2) dq
  | none =>
    rw [e1] at p1
    cases e4 : x.dt with
    | none => rw [e4] at p1; exact p1.elim
    | some kvs =>
      rw [e4] at p1
      obtain ⟨p', n, xs, rfl, hp, kd⟩ := dt_ok q1 e4
      refine ⟨p', rfl, .inr ⟨n, xs, hp, kd.keys g1.cfg.sub, ?_⟩⟩
      refine seqE (PostE X.K ca W σ F H Q) sb (st.grow g1) p1 (fun _ _ h => PostX.mono g1 h) (fun h => h) fun y F2 H2 v2 p2 g2 q2 => ?_
      cases e : gGetDT kvs y with
      | no => rw [e] at p2; exact p2.elim
      | ex c fs => exact absurd e gGetDT_ex
      | ok o =>
        rw [e] at p2
        obtain ⟨c, k, rfl, hc, rfl⟩ := gGetDT_ok q2 e
        have kd2 := kd.mono g2.ff
        rcases kd2.at k with ⟨h1, h2⟩ | ⟨q, d, w, h1, h2, rw', dq⟩
        · rw [h2] at p2
          exact ⟨c, k, .non, rfl, g2.hh _ _ hp, kd2.keys g2.cfg.sub, same_seqT g2.cfg.sub hc, by rw [h1]; rfl, p2 F2 H2 _ (g1.trans g2) .non⟩
        · rw [h2] at p2
          exact ⟨c, k, w, rfl, g2.hh _ _ hp, kd2.keys g2.cfg.sub, same_seqT g2.cfg.sub hc, by rw [h1]; exact rw', p2 F2 H2 _ (g1.trans g2) dq⟩
theorem ve_get2 {c : Expr} (hu : X.A.units + 1 < cLine) (ha : VE ca W X a fa) (hb : VE ca W X b fb) (hc : VE ca W X c fc) (m : M2 X a "get" apos b c cpos) : VE ca W X (.Call (.Attribute a "get" apos) [b, c] [] cpos) (cGet2 fa fb fc) := by
  obtain ⟨ta, pa, sa⟩ := ha
  obtain ⟨tb, pb, sb⟩ := hb
  obtain ⟨tc, pc, sc⟩ := hc
  refine ⟨_, pe_get2 hu pa pb pc m, fun B F env σ H Q st p => ?_⟩
  unfold tGet2
  refine seqE (PostE X.K ca W σ F H Q) sa st p (fun _ _ h => h) (fun h => h) fun x F1 H1 v1 p1 g1 q1 => ?_
  cases e1 : x.dk with
  | some kvs =>
    rw [e1] at p1
    obtain ⟨p', xs, rfl, hp, kd⟩ := dk_ok q1 e1
    refine ⟨p', rfl, .inl ⟨.inl ⟨xs, .inl hp⟩, ?_⟩⟩
    refine seqE (PostE X.K ca W σ F H Q) sb (st.grow g1) p1 (fun _ _ h => PostX.mono g1 h) (fun h => h) fun y F2 H2 v2 p2 g2 q2 => ?_
    refine seqE (PostE X.K ca W σ F H Q) sc ((st.grow g1).grow g2) p2 (fun _ _ h => PostX.mono (g1.trans g2) h) (fun h => h) fun z F3 H3 v3 p3 g3 q3 => ?_
    cases ez : z.sd with
    | none => rw [ez] at p3; exact p3.elim
    | some dz =>
    rw [ez] at p3
    simp only [rsO_some, Rs.bind_ok] at p3
    have dqz := sd_ok q3 ez
    cases e : gGetDK kvs y with
    | no => rw [e] at p3; exact p3.elim
    | ex c fs => exact absurd e gGetDK_ex
    | ok o =>
      rw [e] at p3
      obtain ⟨k, rfl, rfl⟩ := gGetDK_ok q2 e
      refine ⟨_, DGet.k ((g2.trans g3).hh _ _ hp), ?_⟩
      rcases (kd.mono (g2.trans g3).ff).at k with ⟨h1, h2⟩ | ⟨w, d, h1, h2, dq⟩
      · rw [h2] at p3; rw [h1]; exact p3 F3 H3 _ ((g1.trans g2).trans g3) dqz
      · rw [h2] at p3; rw [h1]; exact p3 F3 H3 _ ((g1.trans g2).trans g3) dq
  | none =>
    rw [e1] at p1
    cases e4 : x.dt with
    | none => rw [e4] at p1; exact p1.elim
    | some kvs =>
      rw [e4] at p1
      obtain ⟨p', n, xs, rfl, hp, kd⟩ := dt_ok q1 e4
      refine ⟨p', rfl, .inr ⟨n, xs, hp, kd.keys g1.cfg.sub, ?_⟩⟩
      refine seqE (PostE X.K ca W σ F H Q) sb (st.grow g1) p1 (fun _ _ h => PostX.mono g1 h) (fun h => h) fun y F2 H2 v2 p2 g2 q2 => ?_
      refine seqE (PostE X.K ca W σ F H Q) sc ((st.grow g1).grow g2) p2 (fun _ _ h => PostX.mono (g1.trans g2) h) (fun h => h) fun z F3 H3 v3 p3 g3 q3 => ?_
      cases ez : z.sd with
      | none => rw [ez] at p3; exact p3.elim
      | some dz =>
      rw [ez] at p3
      simp only [rsO_some, Rs.bind_ok] at p3
      have dqz := sd_ok q3 ez
      cases e : gGetDT kvs y with
      | no => rw [e] at p3; exact p3.elim
      | ex c fs => exact absurd e gGetDT_ex
      | ok o =>
        rw [e] at p3
        obtain ⟨c, k, rfl, hc, rfl⟩ := gGetDT_ok (q2.grow g3) e
        have kd2 := kd.mono (g2.trans g3).ff
        have hp3 := (g2.trans g3).hh _ _ hp
        rcases kd2.at k with ⟨h1, h2⟩ | ⟨q, d, w, h1, h2, rw', dq⟩
        · rw [h2] at p3
          exact ⟨c, k, v3, rfl, hp3, kd2.keys g3.cfg.sub, same_seqT g3.cfg.sub hc, fun u ru => by rw [h1]; exact ru, p3 F3 H3 _ ((g1.trans g2).trans g3) dqz⟩
        · rw [h2] at p3
          exact ⟨c, k, w, rfl, hp3, kd2.keys g3.cfg.sub, same_seqT g3.cfg.sub hc, fun u ru => by rw [h1]; exact rw', p3 F3 H3 _ ((g1.trans g2).trans g3) dq⟩
/-! ### reckoning -/
variable (f : VEnv → Out) (env : VEnv) (i : Nat) (x y : PyData) (kvs : List (Key × PyData)) (kts : List (List Int × PyData))
theorem e_aug (g : RV → RV → Rs RV) : sAug i g fa env = match env[i]? with
  | some (some r0) => (fa env).out env fun r => (g r0.bor r).out env fun z => putS i z env
  | _ => .no := rfl
theorem e_decT {h : Decidable True} : @decide True h = true := by simp
theorem e_decF {h : Decidable False} : @decide False h = false := by simp
theorem e_cDispS (x y z w : Str) : cDispS x y z w env = .ok (.od [(.inr x, .str y), (.inr z, .str w)]) := rfl
theorem e_cDT : cDT env = .ok (.ot []) := rfl
theorem e_cDK : cDK env = .ok (.od []) := rfl
theorem e_cDisp1 : cDisp1 fa fb env = (fa env).bind fun x => (fb env).bind fun y => (rsO (x.sd.bind keyTD)).bind fun k => (rsO y.toD).bind fun d => .ok (.ot [(k, d)]) := rfl
theorem e_storeA (fi fe : VEnv → Rs RV) : sStoreA i fi fe env = match env[i]? with
  | some (some r0) => (fe env).out env fun r => (fi env).out env fun ix => (rsO r.toD).out env fun d => (stR r0 ix d).out env fun r1 => .nx (env.set i (some r1))
  | _ => .no := rfl
theorem e_stR1 (xs : List PyData) (k : Int) : stR (.ol xs) (.d (.int k)) x = (rsO (ixN xs.length k)).bind fun j => .ok (.ol (xs.set j x)) := rfl
theorem e_stR2 (r : RV) : stR (.od kvs) r x = (rsO (r.sd.bind keyD)).bind fun k => if kvs.length ≤ 1000000 then .ok (.od (dPut kvs k x)) else .no := rfl
theorem e_stR3 (r : RV) : stR (.ot kts) r x = (rsO (r.sd.bind keyTD)).bind fun k => if kts.length ≤ 1000000 then .ok (.ot (dPut kts k x)) else .no := rfl
theorem e_sd1 : (RV.d x).sd = some x := rfl
theorem e_keyD1 (k : Int) : keyD (.int k) = some (.inl k) := rfl
theorem e_keyD2 (k : Str) : keyD (.str k) = some (.inr k) := rfl
theorem e_keyTD (xs : List PyData) : keyTD (.tuple xs) = intsD xs := rfl
theorem e_intsD (ns : List Int) : intsD (ns.map .int) = some ns := intsD_map ns
theorem e_intsD0 : intsD [] = some [] := rfl
theorem e_borT : (RV.ot kts).bor = .bt kts := rfl
theorem e_borT2 : (RV.bt kts).bor = .bt kts := rfl
theorem e_borK : (RV.od kvs).bor = .bd kvs := rfl
theorem e_borK2 : (RV.bd kvs).bor = .bd kvs := rfl
theorem e_argT : (RV.ot kts).arg = .bt kts := rfl
theorem e_argT2 : (RV.bt kts).arg = .bt kts := rfl
theorem e_argK : (RV.od kvs).arg = .bd kvs := rfl
theorem e_argK2 : (RV.bd kvs).arg = .bd kvs := rfl
theorem e_nbT : (RV.ot kts).nb = .ok (.ot kts) := rfl
theorem e_nbK : (RV.od kvs).nb = .ok (.od kvs) := rfl
theorem e_putT : putS i (.ot kts) env = if i < env.length then .nx (env.set i (some (.ot kts))) else .no := rfl
theorem e_putK : putS i (.od kvs) env = if i < env.length then .nx (env.set i (some (.od kvs))) else .no := rfl
theorem e_gAt1 (b : RV) : gAt (.bt kts) b = gGetDT kts b := rfl
theorem e_gAt2 (b : RV) : gAt (.bd kvs) b = gGetDK kvs b := rfl
theorem e_gAt3 (b : RV) : gAt (.od kvs) b = gGetDK kvs b := rfl
theorem e_gAt4 (b : RV) : gAt (.ot kts) b = gGetDT kts b := rfl
theorem e_gGetDK (b : RV) : gGetDK kvs b = (rsO (b.sd.bind keyD)).bind fun k => .ok (dGet kvs k) := rfl
theorem e_gGetDT (b : RV) : gGetDT kts b = (rsO (b.sd.bind keyTD)).bind fun k => .ok (dGet kts k) := rfl
theorem e_gIxD (a b : RV) : gIxD a b = (gAt a b).bind fun o => (rsO o).bind fun d => .ok (.d d) := rfl
theorem e_gInD (a b : RV) : gInD a b = (gAt b a).bind fun o => okB o.isSome := rfl
theorem e_gNotInD (a b : RV) : gNotInD a b = (gAt b a).bind fun o => okB (!o.isSome) := rfl
theorem e_cGet1 : cGet1 fa fb env = (fa env).bind fun x => match x.dk with
  | some kvs => (fb env).bind fun y => (gGetDK kvs y).bind fun o => .ok (.d (o.getD .none))
  | none => (match x.dt with
    | some kvs => (fb env).bind fun y => (gGetDT kvs y).bind fun o => .ok (.d (o.getD .none))
    | none => .no) := rfl
theorem e_cGet2 : cGet2 fa fb fc env = (fa env).bind fun x => match x.dk with
  | some kvs => (fb env).bind fun y => (fc env).bind fun z => (rsO z.sd).bind fun d => (gGetDK kvs y).bind fun o => .ok (.d (o.getD d))
  | none => (match x.dt with
    | some kvs => (fb env).bind fun y => (fc env).bind fun z => (rsO z.sd).bind fun d => (gGetDT kvs y).bind fun o => .ok (.d (o.getD d))
    | none => .no) := rfl
theorem e_dk1 : (RV.bd kvs).dk = some kvs := rfl
theorem e_dk2 : (RV.od kvs).dk = some kvs := rfl
theorem e_dk3 : (RV.bt kts).dk = none := rfl
theorem e_dk4 : (RV.ot kts).dk = none := rfl
theorem e_dt1 : (RV.bt kts).dt = some kts := rfl
theorem e_dt2 : (RV.ot kts).dt = some kts := rfl
theorem e_del (fi : VEnv → Rs RV) : sDel i fi env = match env[i]? with
  | some (some (.od kvs)) => (fi env).out env fun ix => (rsO (ix.sd.bind keyD)).out env fun k => if (dGet kvs k).isSome = true then .nx (env.set i (some (.od (dDrop kvs k)))) else .no
  | _ => .no := rfl
end
end VL

namespace VL
open PySem PySem.Spec PyProof.Rows L2

/-! ## an own exception class: super().__init__(e), fields -/
theorem lookup_mem {l : List (Str × Value)} {y : Str} {u : Value} (nd : (l.map (·.1)).Nodup) (h : (y, u) ∈ l) : l.lookup y = some u := by
  induction l with
  | nil => cases h
  | cons p l ih =>
    obtain ⟨x, v⟩ := p
    rw [List.map_cons, List.nodup_cons] at nd
    rcases List.mem_cons.mp h with e | h
    · cases e; simp [List.lookup]
    · have ne : y ≠ x := fun z => nd.1 (z ▸ List.mem_map_of_mem (f := (·.1)) h)
      have e : (y == x) = false := by simpa using ne
      simp only [List.lookup, e]
      exact ih nd.2 h
theorem lookup_zip {ps : List Str} {us : List Value} {i : Nat} {y : Str} {u : Value} (nd : ps.Nodup) (hl : us.length = ps.length) (h1 : ps[i]? = some y) (h2 : us[i]? = some u) : (ps.zip us).reverse.lookup y = some u := by
  refine lookup_mem ?_ (List.mem_reverse.mpr ?_)
  · rw [List.map_reverse, List.map_fst_zip (by omega)]; unfold List.Nodup; rw [List.pairwise_reverse]; exact nd.imp fun h => Ne.symm h
  · have : (ps.zip us)[i]? = some (y, u) := by rw [List.getElem?_zip_eq_some]; exact ⟨h1, h2⟩
    exact List.mem_of_getElem? this

abbrev envI (qual : Str) (scope : Scope) (L f : Addr) (cdv : Value) (cc : Addr) : Env := PySem.W.ksEnv qual scope L f cdv cc
def cxI (CX : CXT) (P : Program) (w : World) (K : PySem.W.Frag) (mg : Str → Option Value) (base : Heap) (N : List Str) (qual : Str) (scope : Scope) (f : Addr) (cd : Value) (cc : Addr) (A : Around) (outer : List Env) (s : Shared) (H : Hp) (E : XK) : Cx where
  prog := P
  w := w
  K := K
  mg := mg
  base := base
  A := A.deeper (envI qual scope s.heap.objs.size f cd cc)
  N := N
  s_0 := s
  H_0 := H
  env := envI qual scope s.heap.objs.size f cd cc
  outer := outer
  stack := envI qual scope s.heap.objs.size f cd cc :: outer
  ex := []
  calm := true
  fn := fun x => x != "__class__"
  pn := []
  xe := fun e s' => wpAny (model P w) (A.deeper (envI qual scope s.heap.objs.size f cd cc)) (leaving (envI qual scope s.heap.objs.size f cd cc) e) (fun _ s'' => CX outer H s E e s'') (fun e' s'' => CX outer H s E e' s'') s'

structure IniS (N ps : List Str) (sc : Scope) : Prop where
  kind : sc.kind = .function
  co : sc.isCoroutine = false
  gen : sc.isGenerator = false
  nd : N.Nodup
  pre : N.take ps.length = ps
  par : ∀ x ∈ ps, sc.names.lookup x = some .local
  nocell : ∀ y ∈ sc.names, y.2 ≠ .cell
  free : ∀ y ∈ sc.names, y.2 = .free → y.1 = ("__class__" : Str)
  sup : sc.names.lookup ("super" : Str) = some .globalImplicit
  cls : sc.names.lookup ("__class__" : Str) = some .free

structure IniF (P : Program) (K : PySem.W.Frag) (mg : Str → Option Value) (C fI : Addr) (name qual : Str) (params : Arguments) (body : List Stmt) (scope : Scope) (fd : FuncData) (cc : Addr) (cdv : Value) : Prop where
  oex : OexC K C
  fn : ∃ (dV kV doc pm : Value) (an : Option Addr) (ct oc : Value) (od : Option Addr) (osl : Array (Option Value)), fd = PySem.W.ksFn name qual params body scope dV kV doc pm an cdv ct cc ∧ K.lookup fI = some ⟨oc, od, .func fd, osl⟩
  code : PySem.W.codeIn K cdv qual = true
  codeO : ∃ (cda : Addr) (ccl : Value) (cdd : Option Addr) (vs : Array Value) (ccs : Array (Option Value)) (file : Str) (tf : Tok), cdv = .ref cda ∧ K.lookup cda = some ⟨ccl, cdd, .fields vs, ccs⟩ ∧ vs[2]? = some (.str file tf) ∧ ((P.main.file : Str) == file) = true
  cell : ∃ (cl : Value) (cld : Option Addr) (csl : Array (Option Value)), K.lookup cc = some ⟨cl, cld, .cell (some (.ref C)), csl⟩
  sup : ∃ (cd cdT : ClassData) (T : Addr), PySem.W.clsIn K C = some cd ∧ PySem.W.clsIn K T = some cdT ∧ cd.mro = .ref C :: cdT.mro ∧ PySem.W.findIn K (.ref T) "__init__" = some (some (.builtin "ValueError.__init__"))
  subV : PySem.W.subIn K (.ref C) (.type "ValueError") = some true
  opq : PySem.W.nsIn K PySem.cStatics "thirdparty.any" = some none
  nsup : mg "super" = none
  top : (P.main.scope.names.lookup ("super" : Str)).isSome = false

theorem invI {CX : CXT} {P : Program} {w : World} {K : PySem.W.Frag} {mg : Str → Option Value} {base : Heap} {N ps : List Str} {qual : Str} {scope : Scope} {f cc : Addr} {cd : Value} {A : Around} {outer : List Env} {s : Shared} {h₀ : Heap} {t' : Nat} {H : Hp} {E : XK} {us : List Value} {vs : List V} {c : Value}
    (S : IniS N ps scope) (hd : A.handled = none) (e0 : Env0 P w K mg base A outer s H) (hl : vs.length = ps.length) (r : Vals vs us) (hcell : ∃ o, K.lookup cc = some o ∧ o.data = .cell (some c))
    (ns : h₀.Ns s.heap.objs.size (fun x => (ps.zip us).reverse.lookup x)) (hk : ∀ b o, s.heap.get? b = some o → h₀.get? b = some o) :
    Inv (cxI CX P w K mg base N qual scope f cd cc A outer s H E) [] (start N vs) H { s with heap := h₀, toks := t' } := by
  have hpl : ps.length ≤ N.length := by have := congrArg List.length S.pre; rw [List.length_take] at this; omega
  have noA : ∀ b : Addr, b ∉ (cxI CX P w K mg base N qual scope f cd cc A outer s H E).ex := fun b z => absurd (show b ∈ ([] : List Addr) from z) (by simp)
  obtain ⟨oc, hoc, hcd⟩ := hcell
  have hb : base.get? cc = some oc := e0.mod.kin _ _ hoc
  have onlyC : ∀ {x : Str} {b : Addr}, (cxI CX P w K mg base N qual scope f cd cc A outer s H E).env.cells.lookup x = some b → x = ("__class__" : Str) ∧ b = cc := fun {x b} h => by
    have h' : List.lookup x [(("__class__" : Str), cc)] = some b := h
    by_cases e : x = ("__class__" : Str)
    · subst e
      simp [List.lookup] at h'
      exact ⟨rfl, h'.symm⟩
    · have e' : (x == ("__class__" : Str)) = false := by simpa using e
      simp [List.lookup, e'] at h'
  refine ⟨⟨e0.mod, S.kind, rfl, rfl, Nat.le_refl _, fun y z b h1 h2 => ?_, fun y hy => ?_, fun y b hy h => ?_, fun _ => hd, Around.frames_deeper e0.frames, .inr ⟨rfl, rfl⟩, fun b z => absurd z (noA b), e0.bs, e0.bsz, fun b _ _ => noA b, fun b z => absurd z (noA b), e0.funs, e0.frf⟩,
    rfl, e0.bare, Un.kept hk, ⟨_, ns, fun i y v h1 h2 h3 => ?_⟩, fun y b h => ?_, e0.hok.fresh (Nat.le_refl _), fun y b h => ?_, fun p hp => absurd (show p ∈ ([] : List (Addr × Obj)) from hp) (by simp), e0.hok.kept hk, ?_⟩
  · exact (onlyC h1).1.trans (onlyC h2).1.symm
  · have hy : scope.names.lookup y = some .cell ∨ scope.names.lookup y = some .free := hy
    rcases hy with hy | hy
    · exact absurd rfl (S.nocell _ (PySem.mem_of_lookup hy))
    · have := S.free _ (PySem.mem_of_lookup hy) rfl
      exact ⟨cc, by subst this; rfl⟩
  · have := (onlyC h).1
    subst this
    have hy' : ((("__class__" : Str)) != (("__class__" : Str))) = true := hy
    exact absurd hy' (by decide)
  · have hi : i < vs.length := by
      unfold L2.start at h2
      by_cases hi : i < vs.length
      · exact hi
      · rw [List.getElem?_append_right (by simpa using hi)] at h2
        rw [List.getElem?_replicate] at h2
        split at h2 <;> cases h2
    have ha : vs[i]? = some v := by
      unfold L2.start at h2
      rw [List.getElem?_append_left (by simpa using hi), List.getElem?_map] at h2
      cases e : vs[i]? with
      | none => rw [e] at h2; cases h2
      | some a => rw [e] at h2; cases h2; rfl
    obtain ⟨u, hu, rv⟩ := r.get ha
    have hp : ps[i]? = some y := by
      rw [← S.pre, List.getElem?_take_of_lt (by omega)]; exact h1
    have ndP : ps.Nodup := by rw [← S.pre]; exact S.nd.sublist (List.take_sublist _ _)
    exact ⟨u, rv, .inl ⟨S.par y (List.mem_of_getElem? hp), lookup_zip ndP (by rw [← Paired.length r, hl]) hp hu⟩⟩
  · obtain ⟨rfl, rfl⟩ := onlyC h
    exact ⟨_, _, hk _ _ ((e0.bs _ _ hb).1), hcd⟩
  · obtain ⟨rfl, rfl⟩ := onlyC h
    exact (e0.bs _ _ hb).2
  · unfold L2.start
    show _ = N.length
    rw [List.length_append, List.length_map, List.length_replicate]
    omega
end VL

namespace VL
open PySem PySem.Spec PyProof.Rows L2
section
open PySem.W PySem.Calls
variable {prog : Program} {w : World} {A : Around} {E : Value → Shared → Prop} {h : Heap} {g : Array GenState} {d : Drawn} {t : Nat} {os : OsState}
variable {nm q : Str} {C N : Addr} {bs bm : List Value} {hdct : Bool} {sn : List Str} {sub : List Value} {ab : Bool} {col : Option Bool} {dd : Option Addr} {k0 k1 k2 k3 k5 : Option Value}
theorem call_mw {u e t0 : Addr} {rest : List Value} {Q : Value → Shared → Prop}
    (hC : h.get? C = some (excClassObj nm q C N bs bm hdct sn sub ab col dd k0 k1 k2 k3 k5 "ValueError.__new__")) (he : h.get? e = some (HandSPX.excO C t0)) (hu : h.get? u = some (kxs_mw "ValueError.__init__" e)) (hrest : rest.length ≤ sizeLine)
    (hq : ∀ h' t1, (∀ b o, b ≠ e → h.get? b = some o → h'.get? b = some o) → h'.get? e = some (HandSPX.excO C t1) → Q .none ⟨h', g, d, t, os⟩) :
    wpAny (model prog w) A (call (.ref u) rest) Q E ⟨h, g, d, t, os⟩ := by
  refine wpAny_call (codeAny_of_tree ?_)
  show wpAny _ A.in1 (callAny (.ref u) ⟨rest, []⟩) _ _ _
  simp only [callAny]
  refine wpAny_bind (wpAny_load hu ?_)
  simp only [kxs_mw, show (Value.type "method-wrapper" == Value.type "method" || Value.type "method-wrapper" == Value.type "builtin_function_or_method" || Value.type "method-wrapper" == Value.type "method-wrapper") = true by decide, if_true]
  refine KFB.if_so (by decide) ?_
  refine wpAny_bind (ESX.check_bound F.excBase_ValueError hC he rfl ?_)
  refine wpAny_bind (wpAny_pure (wpAny_pure ?_))
  refine ⟨Code.quiet_builtin _ (by decide +kernel), codeAny_builtin F.excBase_ValueError.initEntry ?_⟩
  rw [Around.under_plainId F.excBase_ValueError.init.plain _]
  wp_walk
  refine hq _ h.objs.size (fun b o hb ho => ?_) ?_
  · rw [Heap.get?_update_other _ _ (Ne.symm hb)]
    exact Heap.get?_push_of_some _ ho
  · rw [Heap.get?_update_self _ (Heap.get?_push_of_some _ he) rfl]
    rfl
end
section
open PySem.W
variable {X : Cx} {pins : List (Addr × Obj)} {σ : L2.St} {H : Hp} {s : Shared} {C fI : Addr} {name qual : Str} {params : Arguments} {body : List Stmt} {scope : Scope} {fd : FuncData} {cc : Addr} {cdv : Value}
theorem boot_super : bootBuiltins "super" = some (.type "super") := by first | rfl | kernel_rfl
/-- super().__init__(e): nothing of it is told -/
theorem super_ok {L a : Addr} {ar : Arg} {e : Expr} {p0 p1 p2 p3 : Pos} {te : TE} {pl : Sem Bool} {Q : Value → Shared → Prop} {E : Value → Shared → Prop}
    (T : IniF X.prog X.K X.mg C fI name qual params body scope fd cc cdv) (hX : X.env = envI qual scope L fI cdv cc) (hA : X.env.kindOf ("super" : Str) = some .globalImplicit) (hcl : X.env.kindOf ("__class__" : Str) = some .free) (hpar : (params.posonlyargs ++ params.args).head? = some ar)
    (hself : X.N[0]? = some ar.arg) (hloc : X.env.kindOf ar.arg = some .local) (I : Inv X pins σ H s) (hσ : σ[0]? = some (some (V.ref a))) (ha : H a = some (exo a C none)) (pe : PE X e te) (hte : ∀ Q : VK, (∀ v, Q v H) → te σ H Q)
    (hq : ∀ s', Inv X pins σ H s' → Q .none s') (hE : E = X.xe)
    (hev : eval (.Call (.Attribute (.Call (.Name "super" p0) [] [] p1) "__init__" p2) [e] [] p3) X.env = (do
      let ov ← attributeBase (.Call (.Name "super" p0) [] [] p1) "__init__" X.env (eval (.Call (.Name "super" p0) [] [] p1) X.env)
      standAt p2.atName
      let (f, first) ← holding [ov] (getMethod ov "__init__" pl)
      callWith p3 f first (backTo p3 (starEach [e] X.env)) []))
    (he : starEach [e] X.env = (false, eval e X.env) :: starEach [] X.env) (hpl : (backTo p3 (starEach [] X.env)).any (·.1) = false) :
    _root_.PySem.wpAt (model X.prog X.w) X.A (.func body X.env) (eval (.Call (.Attribute (.Call (.Name "super" p0) [] [] p1) "__init__" p2) [e] [] p3) X.env) Q E s := by
  subst hE
  obtain ⟨nm, q, N, bs, bm, sn, sub, ab, col, dd, k0, k1, k2, k3, k5, hC, hbm⟩ := T.oex.cls
  obtain ⟨dV, kV, doc, pm, an, ct, oc, od, osl, rfl, lk⟩ := T.fn
  obtain ⟨cda, ccl, cdd, vs, ccs, file, tf, rfl, lkc, hvs, hfile⟩ := T.codeO
  obtain ⟨cl, cld, csl, lkcell⟩ := T.cell
  obtain ⟨cd, cdT, TT, hcd, hcdT, hmro, hfind⟩ := T.sup
  refine ks_wpAt_MethodCall (pl := pl) ?_ hev
  refine ks_wpAt_super_base (env := X.env) hA hcl rfl (by rw [hX]) (I.kIn _ _ lk) rfl hpar (by rw [hX]) (I.kIn _ _ lkc) rfl hvs hfile T.top ?_
  obtain ⟨mb, h1, h2⟩ := I.mod.blt
  refine ks_loadName_global I.ok.kind hA (PySem.Calls.loadGlobal_builtin (by rw [I.ok.glob]; exact I.mod.glob.keeps I.bk) T.nsup (by rw [I.ok.blt]; exact h1.keeps I.bk) ((h2 "super" (by decide)).trans boot_super) ⟨rfl, ?_⟩)
  refine wpAny_loadName_free I.ok.kind hcl (by rw [hX]; rfl) ⟨_, I.kIn _ _ lkcell, rfl⟩ ?_
  obtain ⟨m, hn, hlk⟩ := I.loc
  obtain ⟨u, ru, look⟩ := hlk 0 ar.arg (.ref a) hself hσ (.inl hloc)
  obtain rfl : u = Value.ref a := ru
  have hm : m ar.arg = some (Value.ref a) := by
    rcases look with ⟨_, z⟩ | ⟨z, _⟩
    · exact z
    · rw [hloc] at z
      rcases z with z | z <;> cases z
  refine wpAny_loadName_local I.ok.kind hloc hn hm ?_
  obtain ⟨t1, hae⟩ := exo_at I.hok ha
  have fr : ∀ {b : Addr} {s1 : Shared}, Inv X pins σ H s1 → b ∈ X.fs → ∃ o, s1.heap.get? b = some o := fun {b s1} J hb => by
    obtain ⟨_, o, ho, _⟩ := J.ok.funs.mem hb
    exact J.base.there b o ho (fun z => J.ok.exfs b z hb)
  obtain ⟨hh, g, d, t, os⟩ := s
  refine ks_wpAny_isType_cls (I.kIn _ _ hC) rfl ⟨rfl, ?_⟩
  have hsub : mroIn X.K C (.ref C) = some true := by
    unfold mroIn
    rw [hcd, Option.bind_some, hmro]
    simp
  refine ks_wpAny_call_super (I.kIn _ _ hC) rfl hae rfl (fun c z => by cases z) (looks_mroIn I.kIn hsub) (fun h' hso k => ?_)
  have I1 : Inv X pins σ H ⟨h', g, d, t, os⟩ := I.kept (t' := t) k
  obtain ⟨t2, hae1⟩ := exo_at I1.hok ha
  have IA : InstAt h' a ({ cls := .ref C, dict := none, data := .fields #[.ref t2, .none, .none, .none, .bool false, .none] } : Obj) C none := ⟨hae1, rfl, rfl, trivial⟩
  refine kxs_getMethod kxs_ValueError hso (looks_opaque I1.kIn T.opq) (l₀ := cd.mro) (fun A Q E s k q => wpAny_bind ((looks_clsIn I1.kIn hcd) A _ E s k (wpAny_pure q))) (l := cdT.mro) (by rw [hmro]; exact ESX.drop_own _ _) I1.kIn ?_ (IA.type.andThen (looks_subIn I1.kIn T.subV)) (ks_ne I1.kIn IA hcd) (by decide) ?_
  · unfold findIn at hfind
    unfold clsIn at hcdT
    split at hcdT
    · rename_i c' d' cd' sl' ho
      cases hcdT
      dsimp only at hfind
      rw [ho] at hfind
      exact hfind
    · cases hcdT
  have kp : ∀ b o, h'.get? b = some o → (h'.push (kxs_mw "ValueError.__init__" a)).get? b = some o := fun b o e => Heap.get?_push_of_some _ e
  have I2 : Inv X pins σ H ⟨h'.push (kxs_mw "ValueError.__init__" a), g, d, t + 1, os⟩ := I1.kept (t' := t + 1) kp
  have hu : (h'.push (kxs_mw "ValueError.__init__" a)).get? h'.objs.size = some (kxs_mw "ValueError.__init__" a) := Heap.get?_push_at rfl rfl
  have I3 : Inv X ((h'.objs.size, kxs_mw "ValueError.__init__" a) :: pins) σ H ⟨h'.push (kxs_mw "ValueError.__init__" a), g, d, t + 1, os⟩ := I2.pins_of fun p hp => by
    rcases List.mem_cons.mp hp with rfl | hp
    · refine ⟨hu, I1.hok.fresh (Nat.le_refl _), fun z => ?_, fun z => ?_, fun v z => by cases z⟩
      · obtain ⟨_, ⟨oL, _, _, hoL, _⟩, _⟩ := I1.loc
        have := Heap.lt_size (show h'.get? X.env.locals = some oL from hoL)
        have z' : h'.objs.size = X.env.locals := z
        rw [← z'] at this
        exact Nat.lt_irrefl _ this
      · obtain ⟨o, ho⟩ := fr I1 z
        exact absurd (Heap.lt_size (show h'.get? h'.objs.size = some o from ho)) (Nat.lt_irrefl _)
    · exact I2.pin p (List.mem_append_right _ hp)
  show wpAny _ X.A (callWith p3 (.ref h'.objs.size) [] (backTo p3 (starEach [e] X.env)) []) Q X.xe _
  have pa := pa_cons pe pa_nil he
  refine kxs_callWith (i := "ValueError.__init__") (x := a) (by rw [he]; show (false || (backTo p3 (starEach [] X.env)).any (·.1)) = false; rw [hpl]; rfl) ?_
  have run := pa.run p3 ((h'.objs.size, kxs_mw "ValueError.__init__" a) :: pins) _ σ H (fun vs H1 => vs.length = 1 ∧ H1 = H) I3 (hte _ fun v => ⟨rfl, rfl⟩)
  rw [he] at run ⊢
  refine PySem.Calls.evalArgs_plain (wpAny_mono run (fun us s1 hs => ?_) fun _ _ z => z)
  obtain ⟨ws, H1, J1, r1, hlen, rfl⟩ := hs
  obtain ⟨hu1, _⟩ := J1.pin (h'.objs.size, kxs_mw "ValueError.__init__" a) (List.mem_append_right _ List.mem_cons_self)
  refine ⟨hu1, ?_⟩
  obtain ⟨t3, hae3⟩ := exo_at J1.hok ha
  have J2 : Inv X pins σ H1 s1 := J1.pins_of fun p hp => J1.pin p (List.mem_append_right _ (List.mem_cons_of_mem _ hp))
  obtain ⟨hp1, g1, d1, t4, os1⟩ := s1
  refine call_mw (J2.kIn _ _ hC) hae3 hu1 (by show us.length ≤ sizeLine; rw [← Paired.length r1, hlen, sizeLine_eq]; omega) (fun h2 t5 k2 hx => ?_)
  have J := J2.write (t' := t4) (x := a) (e := a) (o := exo a C none) (by rw [ha]; exact True.intro) (.inl rfl) k2 ⟨_, hx⟩ (exo_ok hx)
  have eu : upd H1 a (exo a C none) = H1 := by
    funext b
    by_cases hb : b = a
    · rw [hb, upd_same, ha]
    · rw [upd_ne hb]
  rw [eu] at J
  exact hq _ J
end
section
variable {P : Program} {w : World} {K : PySem.W.Frag} {mg : Str → Option Value} {base : Heap} {C fI : Addr} {name qual : Str} {params : Arguments} {scope : Scope} {fd : FuncData} {cc : Addr} {cdv : Value}
/-- an own class's __init__ keeps its promise: the fields, by the reading t -/
def spI (C : Addr) (N ps : List Str) (t : TS) : Sp := fun vs H Q E => vs.length = ps.length ∧ ∃ (a : Addr) (ws : List V), vs = .ref a :: ws ∧ H a = some (exo a C none) ∧ t { nx := fun _ H' => Q .non H', rt := Q } (L2.start N vs) H
theorem init_ok {N ps : List Str} {k : Nat} {ar : Arg} {e : Expr} {p0 p1 p2 p3 p4 : Pos} {pl : Addr → Sem Bool} {rest : List Stmt} {t : TS} (S : IniS N ps scope)
    (T : IniF P K mg C fI name qual params (.Expr (.Call (.Attribute (.Call (.Name "super" p0) [] [] p1) "__init__" p2) [e] [] p3) p4 :: rest) scope fd cc cdv) (hpar : (params.posonlyargs ++ params.args).head? = some ar) (hself : ps[0]? = some ar.arg)
    (hev : ∀ L, eval (.Call (.Attribute (.Call (.Name "super" p0) [] [] p1) "__init__" p2) [e] [] p3) (envI qual scope L fI cdv cc) = (do
      let ov ← attributeBase (.Call (.Name "super" p0) [] [] p1) "__init__" (envI qual scope L fI cdv cc) (eval (.Call (.Name "super" p0) [] [] p1) (envI qual scope L fI cdv cc))
      standAt p2.atName
      let (f, first) ← holding [ov] (getMethod ov "__init__" (pl L))
      callWith p3 f first (backTo p3 (starEach [e] (envI qual scope L fI cdv cc))) []))
    (he : ∀ L, starEach [e] (envI qual scope L fI cdv cc) = (false, eval e (envI qual scope L fI cdv cc)) :: starEach [] (envI qual scope L fI cdv cc)) (hpl : ∀ L, (backTo p3 (starEach [] (envI qual scope L fI cdv cc))).any (·.1) = false)
    (hin : ∀ L, interactive (envI qual scope L fI cdv cc) = false) (hsw : ∀ L, swapsWith (.Call (.Attribute (.Call (.Name "super" p0) [] [] p1) "__init__" p2) [e] [] p3) none p4.line (envI qual scope L fI cdv cc) = pure false)
    (hbody : ∀ (A : Around) (outer : List PySem.Env) (s : Shared) (H : Hp) (E : XK) (vs : List V), vs.length = ps.length → (∃ te, PE (cxI (L2.CX P w) P w K mg base N qual scope fI cdv cc A outer s H E) e te ∧ ∀ Q : VK, (∀ v, Q v H) → te (L2.start N vs) H Q) ∧ PSs (cxI (L2.CX P w) P w K mg base N qual scope fI cdv cc A outer s H E) rest t) :
    FnOk P w K mg base (L2.CX P w) (k + 1) fI fd ps (spI C N ps t) := by
  refine ⟨fun vs H Q E h => h.1, fun A outer s H args us vs Q E hr e0 hb r hsp => ?_⟩
  obtain ⟨hl, a, ws, rfl, ha, ht⟩ := hsp
  have KX : K.In s.heap := e0.mod.kin.keeps fun b o e => (e0.bs b o e).1
  have lim : s.heap.NoLimit := e0.mod.nolimit.keeps fun b o e => (e0.bs b o e).1
  obtain ⟨dV, kV, doc, pm, an, ct, oc, od, osl, hfd, lk⟩ := id T.fn
  obtain ⟨cl, cld, csl, lkcell⟩ := T.cell
  have hl1 : us.length = ps.length := by rw [← Paired.length r, hl]
  subst hfd
  refine PySem.ks_codeAny_call_defAt (binds := ps.zip us) hr.depth (KX _ _ lk) rfl lim (PySem.W.codeRec_of KX T.code) rfl hb S.nocell (fun x hx => S.par _ (List.of_mem_zip hx).1) (fun h₀ ns hk => ?_) S.co S.gen S.kind
  have I := invI (CX := L2.CX P w) (w := w) (N := N) (qual := qual) (f := fI) (cd := cdv) (E := E) (t' := s.toks + (ps.zip us).length) S hr.hd e0 hl r ⟨_, lkcell, rfl⟩ ns hk
  obtain ⟨⟨te, pe, hte⟩, prest⟩ := hbody A outer s H E _ hl
  have hN0 : N[0]? = some ar.arg := by
    have hp : 0 < ps.length := by
      cases hps : ps with
      | nil => rw [hps] at hself; cases hself
      | cons _ _ => simp
    rw [← hself, ← S.pre, List.getElem?_take_of_lt hp]
  refine PySem.ks_wpAt_execs_cons (PySem.ks_wpAt_Expr_any ?_ (hin _) (hsw _))
  refine super_ok (X := cxI (L2.CX P w) P w K mg base N qual scope fI cdv cc A outer s H E) (pl := pl s.heap.objs.size) T rfl S.sup S.cls hpar hN0 (S.par _ (List.mem_of_getElem? hself)) I rfl ha pe hte (fun s' J => ?_) rfl (hev _) (he _) (hpl _)
  refine PySem.wpAt_of_wpAny (wpAny_mono (prest.run [] s' _ H _ J ht) (fun fl s2 hs => ?_) fun e s2 hs => hs)
  have fin : ∀ {σ' : L2.St} {H' : Hp} {v : V} {u : Value}, Inv (cxI (L2.CX P w) P w K mg base N qual scope fI cdv cc A outer s H E) [] σ' H' s2 → RelV v u → Q v H' → CE outer P w H s Q u s2 :=
    fun {σ' H' v u} J rv q => ⟨v, H', J.os, J.bare, J.base, J.hok, rv, q⟩
  cases fl with
  | ret u =>
    obtain ⟨v, σ', H', J, rv, q⟩ := hs
    exact fin J rv q
  | next =>
    obtain ⟨σ', H', J, q⟩ := hs
    exact fin (v := V.non) (u := Value.none) J rfl q
  | brk =>
    obtain ⟨_, _, _, q⟩ := hs
    exact False.elim q
  | cont =>
    obtain ⟨_, _, _, q⟩ := hs
    exact False.elim q
end
end VL

namespace VL
open PySem PySem.Spec PyProof.Rows L2

/-! ## raise C(e, ..) -/
def fldD (flds : List (Str × Nat)) (ds : List PyData) : Option (List (Str × PyData)) := flds.mapM fun p => (ds[p.2]?).map fun d => (p.1, d)
def fldV (flds : List (Str × Nat)) (ws : List V) : Option (List (Str × V)) := flds.mapM fun p => (ws[p.2]?).map fun d => (p.1, d)
theorem fld_kd {K : PySem.W.Frag} {F : Hp} : ∀ {flds : List (Str × Nat)} {ws : List V} {ds : List PyData} {fs : List (Str × PyData)}, DqA K F ws ds → fldD flds ds = some fs → ∃ xs, fldV flds ws = some xs ∧ KD K F xs fs
  | [], _, _, _, _, h => by
    cases h
    exact ⟨[], rfl, .nil⟩
  | (f, i) :: flds, ws, ds, fs, q, h => by
    unfold fldD at h
    rw [List.mapM_cons] at h
    cases e : ds[i]? with
    | none => rw [e] at h; cases h
    | some d =>
      rw [e] at h
      cases e2 : fldD flds ds with
      | none =>
        unfold fldD at e2
        rw [e2] at h; cases h
      | some r =>
        obtain ⟨xs, h1, h2⟩ := fld_kd q e2
        unfold fldD at e2
        rw [e2] at h
        cases h
        have go : ∀ {ws : List V} {ds : List PyData} {i : Nat}, DqA K F ws ds → ds[i]? = some d → ∃ v, ws[i]? = some v ∧ Dq K F v d := by
          intro ws ds i q
          induction ws generalizing ds i with
          | nil => cases q; intro z; simp at z
          | cons w ws ih =>
            cases q with
            | cons q1 q2 =>
              intro z
              cases i with
              | zero => simp at z; subst z; exact ⟨w, rfl, q1⟩
              | succ i => obtain ⟨v, a, b⟩ := ih (i := i) q2 (by simpa using z); exact ⟨v, by simpa using a, b⟩
        obtain ⟨v, a, b⟩ := go q e
        refine ⟨(f, v) :: xs, ?_, .cons ⟨rfl, b⟩ h2⟩
        unfold fldV at h1 ⊢
        rw [List.mapM_cons, a]
        simp only [Option.map_some, Option.pure_def, Option.bind_eq_bind, Option.bind_some, h1]
theorem outA {K : PySem.W.Frag} {ca : Nat → Addr} {W : WX} {B : Base} {F H : Hp} {env : VEnv} {σ : L2.St} {t : TA} {f : VEnv → Rs (List RV)} {Q : List V → Hp → Prop} {D : Ends} {k : List RV → Out} (s : SndA K ca W t f) (st : StOk K B F env σ H)
    (post : PostS K ca W B F D ((f env).out env k)) (h : ∀ r F1 H1 vs, PostS K ca W B F1 D (k r) → Grow F H F1 H1 → Paired (fun v r => RVok K H F1 H1 v r) vs r → Q vs H1) : t σ H Q := by
  refine s B F env σ H Q st ?_
  cases e : f env with
  | ok r => rw [e] at post; exact fun F' H' v g q => h r F' H' v (PostS.mono g.ff post) g q
  | ex c fs => rw [e] at post; exact exOut st post
  | no => rw [e] at post; exact post
/-- what the reading of an __init__ comes to -/
def IniT (C : Addr) (n : Nat) (flds : List (Str × Nat)) (t : List V → VK → Hp → Prop) : Prop :=
  ∀ (a : Addr) (ws : List V) (xs : List (Str × V)) (H : Hp) (Q : VK), ws.length = n → fldV flds ws = some xs → H a = some (exo a C none) →
    (∀ d H2, H d = none → d ≠ a → H2 a = some (exo a C (some d)) → H2 d = some (exd d xs) → (∀ b, b ≠ a → b ≠ d → H2 b = H b) → Q .non H2) → t (.ref a :: ws) Q H
def sRaise (c n : Nat) (flds : List (Str × Nat)) (fa : VEnv → Rs (List RV)) : VEnv → Out := fun env => (fa env).out env fun rs => (rsO ((allD rs).bind (fldD flds))).out env fun fs => if rs.length = n ∧ n ≤ 900 then .ex c fs env else .no
section
variable {ca : Nat → Addr} {W : WX} {X : Cx} {e : Expr} {es : List Expr} {fa : VEnv → Rs (List RV)} {pos p p1 : Pos}
theorem vs_raise {c n k : Nat} {flds : List (Str × Nat)} {x : Str} {fI : Addr} {fd : FuncData} {N ps : List Str} {t : TS} (T : OexC X.K (ca c)) (iC : PySem.W.findIn X.K (.ref (ca c)) "__init__" = some (some (.ref fI))) (tI : PySem.W.typeIn X.K (.ref fI) = some (.type "function"))
    (F1 : FnOk X.prog X.w X.K X.mg X.base (L2.CX X.prog X.w) k fI fd ps (spI (ca c) N ps t)) (hn : ps.length = n + 1) (ht : IniT (ca c) n flds (fun vs Q H => t { nx := fun _ H' => Q .non H', rt := Q } (L2.start N vs) H)) (hr : Room (k + 1) X.A) (hb : Binds X.K fd ps [])
    (tk : Takes X W) (hc : X.calm = true) (hg : Gl X x) (hm : X.mg x = some (.ref (ca c))) (ha : VA ca W X (e :: es) fa)
    (hdb : (x == ("__debug__" : Str)) = false := by decide) (he : starEach (e :: es) X.env = (false, eval e X.env) :: starEach es X.env := by rfl) (hpl : (backTo p (starEach es X.env)).any (·.1) = false := by rfl) :
    VS ca W X (.Raise (some (.Call (.Name x p1) (e :: es) [] p)) none pos) (sRaise c n flds fa) := by
  obtain ⟨ta, pa, sa⟩ := ha
  refine ⟨_, ps_raise hc tk (pmk_oex (ds := []) (dvs := []) T iC tI F1 hr hb .nil (passes_call tk fun _ _ _ _ z => z.elim) hg hm pa hdb he hpl), fun B F env σ H D st q => ?_⟩
  show ta σ H fun vs H1 => vs.length ≤ 1000 ∧ ∀ a, H1 a = none → spI (ca c) N ps t (.ref a :: (vs ++ [])) (upd H1 a (exo a (ca c) none))
    (fun v H2 => v = .non ∧ ∃ (d : Addr) (fs : List (Str × V)), H2 a = some (exo a (ca c) (some d)) ∧ H2 d = some (exd d fs) ∧ H1 d = none ∧ W (.ref (ca c)) (some d) σ (upd (del H2 a) d (.xd fs))) (fun _ _ _ => False)
  refine outA sa st q fun rs F1 H1 vs q1 g1 pr => ?_
  cases e1 : allD rs with
  | none => rw [e1] at q1; exact q1.elim
  | some ds =>
    rw [e1] at q1
    cases e2 : fldD flds ds with
    | none => simp only [Option.bind_some, e2, rsO_none, Rs.out_no] at q1; exact q1.elim
    | some fs =>
      simp only [Option.bind_some, e2, rsO_some, Rs.out_ok] at q1
      split at q1
      · rename_i hln
        obtain ⟨F2, g2, s2, q2⟩ := frzs g1 (Fz.ofs pr e1)
        obtain ⟨xs, hx, kd⟩ := fld_kd q2 e2
        have hvl : vs.length = n := by rw [Paired.length pr]; exact hln.1
        refine ⟨by omega, fun a na => ⟨by rw [List.append_nil]; simp [hvl, hn], a, vs ++ [], rfl, upd_same, ?_⟩⟩
        rw [List.append_nil]
        refine ht a vs xs (upd H1 a (exo a (ca c) none)) (fun v H2 => v = .non ∧ ∃ (d : Addr) (fs : List (Str × V)), H2 a = some (exo a (ca c) (some d)) ∧ H2 d = some (exd d fs) ∧ H1 d = none ∧ W (.ref (ca c)) (some d) σ (upd (del H2 a) d (.xd fs))) hvl hx upd_same (fun d H2 nd nda ea ed rest => ⟨rfl, d, xs, ea, ed, ?_, ?_⟩)
        · rw [upd_ne nda] at nd; exact nd
        · have nd1 : H1 d = none := by rw [upd_ne nda] at nd; exact nd
          have eH : upd (del H2 a) d (.xd xs) = upd H1 d (.xd xs) := by
            funext b
            by_cases hbd : b = d
            · rw [hbd, upd_same, upd_same]
            · rw [upd_ne hbd, upd_ne hbd]
              by_cases hba : b = a
              · rw [hba, del_same, na]
              · rw [del_ne hba, rest b hba hbd, upd_ne hba]
          rw [eH]
          have g3 := Grow.newO g2.cfg (.xd xs) nd1 (fun _ z => by cases z)
          exact q1 F2 σ _ (.ref (ca c)) (some d) s2 (st.grow (g2.trans g3)) ⟨rfl, d, xs, rfl, upd_same, kd⟩
      · exact q1.elim
end

/-! ## try: body / except C as n: suite -/
def Out.clr (i : Nat) : Out → Out
  | .nx env => .nx (env.set i none)
  | .bk env => .bk (env.set i none)
  | .ct env => .ct (env.set i none)
  | .rt r => .rt r
  | _ => .no
open Classical in
noncomputable def oneOut (f : Addr → Addr → Out) : Out := if h : ∃ o, ∀ a dd, f a dd = o then Classical.choose h else .no
theorem oneOut_eq {f : Addr → Addr → Out} {o : Out} (h : ∀ a dd, f a dd = o) : oneOut f = o := by
  unfold oneOut
  rw [dif_pos ⟨o, h⟩]
  have z := Classical.choose_spec (⟨o, h⟩ : ∃ o, ∀ a dd, f a dd = o)
  exact (z 0 0).symm.trans (h 0 0)
theorem oneOut_at {f : Addr → Addr → Out} (h : oneOut f ≠ .no) (a dd : Addr) : f a dd = oneOut f := by
  unfold oneOut at h ⊢
  split at h
  · rename_i z
    rw [dif_pos z]
    exact Classical.choose_spec z a dd
  · exact absurd rfl h
noncomputable def sTry (mt : Nat → Option Bool) (i : Nat) (body : VEnv → Out) (suite : Addr → Addr → Nat → VEnv → Out) : VEnv → Out := fun env => match body env with
  | .ex c fs env' => (match mt c with
    | some true => if i < env'.length then oneOut fun a dd => (suite a dd c (env'.set i (some (.xo a dd c fs)))).clr i else .no
    | some false => .ex c fs env'
    | none => .no)
  | o => o
def tUS (K : PySem.W.Frag) (ca : Nat → Addr) (W : WX) (f : VEnv → Out) : TS := fun D σ H => ∃ B F env, StOk K B F env σ H ∧ PostS K ca W B F D (f env)
theorem VSs.pss {ca : Nat → Addr} {W : WX} {X : Cx} {st : List Stmt} {f : VEnv → Out} (h : VSs ca W X st f) : PSs X st (tUS X.K ca W f) := by
  obtain ⟨t, p, s⟩ := h
  exact ⟨fun pins sh σ H D I q => by
    obtain ⟨B, F, env, so, post⟩ := q
    exact p.run pins sh σ H D I (s B F env σ H D so post)⟩
def wNo : WX := fun _ _ _ _ => False
theorem takes_no {X : Cx} : Takes X wNo := fun _ _ ⟨_, _, _, _, _, _, _, _, _, _, _, _, _, _, _, _, z⟩ => z.elim
section
variable {ca : Nat → Addr} {Wout : WX} {X : Cx} {x n : Str} {C : Value} {i : Nat} {body suite : List Stmt} {b₀ : Stmt} {np pos pos' : Pos}
theorem vs_try {mt : Nat → Option Bool} {fb : VEnv → Out} {fs : Addr → Addr → Nat → VEnv → Out} (hs : X.stack = X.env :: X.outer) (hf : X.env.frame = some X.env.locals) (hN : X.N.Nodup) (hi : X.N[i]? = some n) (hln : X.env.kindOf n = some .local) (hc : Names X x C) (tk : Takes X Wout)
    (hm : ∀ c b, mt c = some b → PySem.W.exmOne X.K (.ref (ca c)) C = some b)
    (hb : ∀ (W : WX) (pn : List (Addr × Obj)) (xe : Value → Shared → Prop), Takes (X.tr pn xe) W → PassesOwn (model X.prog X.w) X.A X.env xe → VSs ca W (X.tr pn xe) body fb)
    (hsu : ∀ (a dd : Addr) (c : Nat) (oe : Obj) (pn : List (Addr × Obj)), Zc (.ref (ca c)) (some dd) oe → (∃ vs, oe.data = .fields vs) → VSs ca wNo (X.suite a ((a, oe) :: pn)) (b₀ :: suite) (fs a dd c)) :
    VS ca Wout X (.Try body [.ExceptHandler (some (.Name x np)) (some n) (b₀ :: suite) pos'] [] [] pos) (sTry mt i fb fs) := by
  refine ⟨_, ps_try_as (tb := fun W => tUS X.K ca W fb) (ts := fun a cls d D σ H => ∃ c dd, cls = .ref (ca c) ∧ d = some dd ∧ tUS X.K ca wNo (fs a dd c) D σ H) hs hf hN hi hln hc tk (fun W pn xe t p => (hb W pn xe t p).pss) (fun a oe cls d pn hz hd => ⟨fun pins s σ H D I q => ?_⟩), fun B F env σ H D st q => ?_⟩
  · obtain ⟨c, dd, rfl, rfl, q⟩ := q
    exact (hsu a dd c oe pn hz hd).pss.run pins s σ H D I q
  · refine ⟨B, F, env, st, ?_⟩
    unfold sTry at q
    cases e : fb env with
    | nx env' => rw [e] at q; exact q
    | bk env' => rw [e] at q; exact q
    | ct env' => rw [e] at q; exact q
    | rt r => rw [e] at q; exact q
    | no => rw [e] at q; exact q
    | ex c fl env' =>
      rw [e] at q
      dsimp only at q
      intro F1 σ1 H1 cls dx s1 st1 xo
      obtain ⟨rfl, dd, xs, rfl, hdd, kd⟩ := xo
      cases em : mt c with
      | none => rw [em] at q; exact q.elim
      | some b =>
        rw [em] at q
        refine ⟨b, hm c b em, fun hb1 a na => ?_, fun hb1 => ?_⟩
        · subst hb1
          dsimp only at q
          split at q
          · rename_i hlt
            refine ⟨c, dd, rfl, rfl, B, F1, _, st1.put hlt (r := .xo a dd c fl) ⟨rfl, xs, hdd, kd⟩ rfl (fun z => by cases z), ?_⟩
            have q1 : PostS X.K ca Wout B F1 D ((fs a dd c (env'.set i (some (.xo a dd c fl)))).clr i) := by
              have hno : oneOut (fun a dd => (fs a dd c (env'.set i (some (.xo a dd c fl)))).clr i) ≠ .no := fun z => by rw [z] at q; exact q
              have := oneOut_at hno a dd
              rw [this]
              exact PostS.mono s1 q
            generalize fs a dd c (env'.set i (some (.xo a dd c fl))) = o at q1 ⊢
            cases o with
            | nx e2 => exact fun F2 σ2 H2 s2 st2 => q1 F2 _ H2 s2 (st2.drop i)
            | bk e2 => exact fun F2 σ2 H2 s2 st2 => q1 F2 _ H2 s2 (st2.drop i)
            | ct e2 => exact fun F2 σ2 H2 s2 st2 => q1 F2 _ H2 s2 (st2.drop i)
            | rt r => exact q1
            | ex c2 f2 e2 => exact q1.elim
            | no => exact q1.elim
          · exact q.elim
        · subst hb1
          exact q F1 σ1 H1 _ _ s1 st1 ⟨rfl, dd, xs, rfl, hdd, kd⟩
end
section
variable {ca : Nat → Addr} {W : WX} {X : Cx}
/-- e.f, e the exception that the suite holds -/
def cXf (a dd c : Nat) (cs : Nat → Bool) (i : Nat) (f : Str) : VEnv → Rs RV := fun env => match env[i]? with
  | some (some (.xo a' dd' c' fs)) => if a' = a ∧ dd' = dd ∧ c' = c ∧ cs c = true then (rsO (fs.lookup f)).bind fun d => .ok (.d d) else .no
  | _ => .no
theorem kd_lookup {K : PySem.W.Frag} {F : Hp} {f : Str} {d : PyData} : ∀ {xs : List (Str × V)} {fs : List (Str × PyData)}, KD K F xs fs → fs.lookup f = some d → ∃ v, xs.lookup f = some v ∧ Dq K F v d
  | _, _, .nil, h => by cases h
  | (k, v) :: xs, (k', d') :: fs, .cons h1 h2, h => by
    obtain ⟨e, q⟩ := h1
    have e' : k = k' := e
    subst e'
    by_cases z : f = k
    · subst z
      simp [List.lookup] at h
      subst h
      exact ⟨v, by simp [List.lookup], q⟩
    · have z' : (f == k) = false := by simpa using z
      simp only [List.lookup, z'] at h ⊢
      exact kd_lookup h2 h
theorem ve_xf {a dd c i : Nat} {cs : Nat → Bool} {oe : Obj} {pn : List (Addr × Obj)} {f x : Str} {p pos : Pos} (T : ∀ c, cs c = true → XfC X.K (ca c) ∧ PySem.W.findIn X.K (.ref (ca c)) f = some none) (hz : Zc (.ref (ca c)) (some dd) oe) (hf : ∃ vs, oe.data = .fields vs)
    (hN : X.N[i]? = some x) (hv : Vis X.env.scope x) (hd : (x == ("__debug__" : Str)) = false := by decide) (hcd : (x == ("__classdict__" : Str)) = false := by decide) (hb : ∀ env, attributeBase (.Name x p) f env (eval (.Name x p) env) = eval (.Name x p) env := by intro _; rfl) :
    VE ca W (X.suite a ((a, oe) :: pn)) (.Attribute (.Name x p) f pos) (cXf a dd c cs i f) := by
  by_cases hc : cs c = true
  · obtain ⟨T1, T2⟩ := T c hc
    refine ⟨_, pe_xf T1 T2 hz hf (pe_var (X := X.suite a ((a, oe) :: pn)) hN hv hd hcd) (hb _), fun B F env σ H Q st q => ?_⟩
    unfold cXf at q
    split at q
    · rename_i a' dd' c' fs e
      obtain ⟨v, ev, h⟩ := st.sl i _ e
      obtain ⟨rfl, xs, hdd, kd⟩ := h
      split at q
      · rename_i hcond
        obtain ⟨rfl, rfl, rfl, _⟩ := hcond
        cases el : fs.lookup f with
        | none => rw [el] at q; exact q.elim
        | some d =>
          rw [el] at q
          obtain ⟨u, hu, dq⟩ := kd_lookup kd el
          exact ⟨_, ev, rfl, rfl, dd', xs, u, rfl, hdd, hu, q F H u (Grow.refl st.cfg) dq⟩
      · exact q.elim
    · exact q.elim
  · refine ⟨fun _ _ _ => False, ⟨fun _ _ _ _ _ _ h => h.elim⟩, fun B F env σ H Q st q => ?_⟩
    unfold cXf at q
    split at q
    · rw [if_neg (fun z => hc z.2.2.2)] at q
      exact q.elim
    · exact q.elim
end
end VL

namespace VL
open PySem PySem.Spec PyProof.Rows L2
theorem start_at {N : List Str} {vs : List V} {i : Nat} {v : V} (h : vs[i]? = some v) : (L2.start N vs)[i]? = some (some v) := by
  unfold L2.start
  have hi : i < vs.length := (List.getElem?_eq_some_iff.mp h).1
  rw [List.getElem?_append_left (by simpa using hi), List.getElem?_map, h]
  rfl
theorem te_var {N : List Str} {vs : List V} {k : Nat} {H : Hp} (h : k < vs.length) (Q : VK) (hQ : ∀ v, Q v H) : tVar k (L2.start N vs) H Q :=
  ⟨vs[k], start_at (by rw [List.getElem?_eq_getElem h]), hQ _⟩
def clsBody (s : Stmt) : List Stmt := match s with
  | .ClassDef _ _ _ b _ _ _ _ _ _ _ => b
  | _ => []
theorem exm_mk {K : PySem.W.Frag} {C : Addr} {cls : Value} {b : Bool} (h1 : PySem.W.subIn K (.ref C) (.type "BaseException") = some true) (hdct : PySem.W.hasDictIn K C = true) (ht : PySem.W.typeIn K (.ref C) = some (.type "type")) (h4 : PySem.W.subIn K cls (.ref C) = some b) : PySem.W.exmOne K cls (.ref C) = some b := by
  obtain ⟨cd, hc, _⟩ := PySem.W.any_some hdct
  have e1 : (PySem.W.subIn K (.ref C) (.type "BaseException") == some true) = true := by rw [h1] <;> rfl
  have e2 : ((PySem.W.clsIn K C).isSome && PySem.W.typeIn K (.ref C) == some (.type "type")) = true := by rw [hc, ht] <;> rfl
  show (if (PySem.W.subIn K (.ref C) (.type "BaseException") == some true) = true then (if ((PySem.W.clsIn K C).isSome && PySem.W.typeIn K (.ref C) == some (.type "type")) = true then PySem.W.subIn K cls (.ref C) else none) else none) = some b
  rw [if_pos e1, if_pos e2]
  exact h4
section
variable {K : PySem.W.Frag} {C : Addr} {N : List Str} {f1 f2 : Str} {i j n : Nat}
theorem ini1 (T : OexC K C) (n1 : PySem.W.findIn K (.ref C) f1 = some none) : IniT C n [(f1, i)] (fun vs Q H => (tOst K f1 (tVar 0) (tVar (i + 1))) { nx := fun _ H' => Q .non H', rt := Q } (L2.start N vs) H) := by
  intro a ws xs H Q hl hx ha h
  cases e1 : ws[i]? with
  | none => unfold fldV at hx; simp [e1] at hx
  | some v1 =>
    have ex : xs = [(f1, v1)] := by unfold fldV at hx; simp [e1] at hx; exact hx.symm
    subst ex
    refine ⟨v1, start_at (by simpa using e1), .ref a, start_at rfl, a, C, rfl, T, n1, .inl ⟨ha, fun dx nd ne => ?_⟩⟩
    refine h dx _ nd ne upd_same (by rw [upd_ne ne, upd_same]) fun b h1 h2 => ?_
    rw [upd_ne h1, upd_ne h2]
theorem ini2 (T : OexC K C) (n1 : PySem.W.findIn K (.ref C) f1 = some none) (n2 : PySem.W.findIn K (.ref C) f2 = some none) : IniT C n [(f2, j), (f1, i)] (fun vs Q H => (tSeq (tOst K f1 (tVar 0) (tVar (i + 1))) (tOst K f2 (tVar 0) (tVar (j + 1)))) { nx := fun _ H' => Q .non H', rt := Q } (L2.start N vs) H) := by
  intro a ws xs H Q hl hx ha h
  cases e1 : ws[i]? with
  | none => unfold fldV at hx; cases e2 : ws[j]? <;> simp [e1, e2] at hx
  | some v1 =>
    cases e2 : ws[j]? with
    | none => unfold fldV at hx; simp [e1, e2] at hx
    | some v2 =>
      have ex : xs = [(f2, v2), (f1, v1)] := by unfold fldV at hx; simp [e1, e2] at hx; exact hx.symm
      subst ex
      refine ⟨v1, start_at (by simpa using e1), .ref a, start_at rfl, a, C, rfl, T, n1, .inl ⟨ha, fun dx nd ne => ?_⟩⟩
      refine ⟨v2, start_at (by simpa using e2), .ref a, start_at rfl, a, C, rfl, T, n2, .inr ⟨dx, [(f1, v1)], upd_same, by rw [upd_ne ne, upd_same], by simp, ?_⟩⟩
      refine h dx _ nd ne (by rw [upd_ne (Ne.symm ne), upd_same]) upd_same fun b h1 h2 => ?_
      rw [upd_ne h2, upd_ne h1, upd_ne h2]
end
/-! the reckoning of it -/
theorem e_raise {c n : Nat} {flds : List (Str × Nat)} {fa : VEnv → Rs (List RV)} {env : VEnv} : sRaise c n flds fa env = (fa env).out env fun rs => (rsO ((allD rs).bind (fldD flds))).out env fun fs => if rs.length = n ∧ n ≤ 900 then .ex c fs env else .no := rfl
theorem e_try_nx {mt : Nat → Option Bool} {i : Nat} {fb : VEnv → Out} {fs : Addr → Addr → Nat → VEnv → Out} {env : VEnv} (h : ∀ c fl e, fb env ≠ .ex c fl e) : sTry mt i fb fs env = fb env := by
  unfold sTry
  cases e : fb env with
  | ex c fl e' => exact absurd e (h c fl e')
  | _ => rfl
theorem e_try_ok {mt : Nat → Option Bool} {i : Nat} {fb : VEnv → Out} {fs : Addr → Addr → Nat → VEnv → Out} {env : VEnv} {o : Out} (h : fb env = o) (hn : ∀ c fl e, o ≠ .ex c fl e) : sTry mt i fb fs env = o := by
  rw [e_try_nx (fun c fl e => by rw [h]; exact hn c fl e), h]
theorem e_try_ex {mt : Nat → Option Bool} {i : Nat} {fb : VEnv → Out} {fs : Addr → Addr → Nat → VEnv → Out} {env env' : VEnv} {c : Nat} {fl : List (Str × PyData)} {o : Out} (h : fb env = .ex c fl env') (hm : mt c = some true) (hl : i < env'.length)
    (hs : ∀ a dd, (fs a dd c (env'.set i (some (.xo a dd c fl)))).clr i = o) : sTry mt i fb fs env = o := by
  unfold sTry
  rw [h]
  dsimp only
  rw [hm]
  dsimp only
  rw [if_pos hl]
  exact oneOut_eq hs
theorem e_clr1 (i env) : (Out.nx env).clr i = .nx (env.set i none) := rfl
theorem e_clr2 (i env) : (Out.bk env).clr i = .bk (env.set i none) := rfl
theorem e_clr3 (i env) : (Out.ct env).clr i = .ct (env.set i none) := rfl
theorem e_clr4 (i r) : (Out.rt r).clr i = .rt r := rfl
theorem e_xf {a dd c i : Nat} {cs : Nat → Bool} {f : Str} {env : VEnv} : cXf a dd c cs i f env = match env[i]? with
  | some (some (.xo a' dd' c' fs)) => if a' = a ∧ dd' = dd ∧ c' = c ∧ cs c = true then (rsO (fs.lookup f)).bind fun d => .ok (.d d) else .no
  | _ => .no := rfl
/-! what the text says of its classes -/
theorem oex_mk {K : PySem.W.Frag} {C : Addr} {nm q : Str} {N : Addr} {bs bm : List Value} {sn : List Str} {sub : List Value} {ab : Bool} {col : Option Bool} {dd : Option Addr} {k0 k1 k2 k3 k5 : Option Value} (l : K.lookup C = some (excClassObj nm q C N bs bm true sn sub ab col dd k0 k1 k2 k3 k5 "ValueError.__new__"))
    (hb : PySem.HandSPX.refsVE bm = true) (sa : PySem.W.findIn K (.ref C) "__setattr__" = some (some (.builtin "object.__setattr__"))) (exC : PySem.W.subIn K (.ref C) (.type "BaseException") = some true) (tyC : PySem.W.typeIn K (.ref C) = some (.type "type")) (kC : PySem.W.keepIn K (.ref C) = true) : OexC K C :=
  ⟨⟨nm, q, N, bs, bm, sn, sub, ab, col, dd, k0, k1, k2, k3, k5, l, hb⟩, sa, exC, tyC, kC⟩
end VL

namespace VL
open PySem PySem.Spec PyProof.Rows L2
/-! ## isinstance of a caught exception -/
structure IsE (K : PySem.W.Frag) (C : Addr) : Prop where
  hga : PySem.W.findIn K (.ref C) "__getattribute__" = some (some (.builtin "BaseException.__getattribute__"))
  hgt : PySem.W.findIn K (.ref C) "__getattr__" = some none
  hs : PySem.W.subIn K (.ref C) (.type "BaseException") = some true
  hd : PySem.W.hasDictIn K C = true
  ha : PySem.W.findIn K (.ref C) "__class__" = some (some (.builtin "object.__class__"))
  hn : PySem.W.specialIn K (.builtin "object.__class__") "__get__" = some (some (.builtin "getset_descriptor.__get__"))
  ht : PySem.W.takesIn K (.builtin "object.__class__") = some true
  hm : PySem.W.mroIn K C (.type "object") = some true
def rIsX (K : PySem.W.Frag) (C a dd : Addr) : List V → Hp → VK → Prop := fun xs H Q => ∃ (c : V) (cv : Value) (b : Bool) (fs : List (Str × V)), xs = [.ref a, c] ∧ (∀ u, RelV c u → u = cv) ∧ PySem.W.kitOne K (.ref C) cv = some b ∧ H dd = some (.xd fs) ∧ Q (.bl b) H
theorem call_isX {X : Cx} {a C dd : Addr} {oe : Obj} {pn : List (Addr × Obj)} (T : IsE X.K C) (hz : Zc (.ref C) (some dd) oe) (hf : ∃ vs, oe.data = .fields vs) : CallR (X.suite a ((a, oe) :: pn)) (.builtin "isinstance") (rIsX X.K C a dd) := by
  intro pins s σ H xs us Q I r h
  obtain ⟨c, cv, b, fs, rfl, hcv, e, hdd, q⟩ := h
  cases r with
  | cons rx rr =>
    cases rr with
    | cons rt rr =>
      cases rr
      cases rx
      have ec := hcv _ rt
      subst ec
      obtain ⟨hget, _⟩ := I.pin (a, oe) (List.mem_append.mpr (.inl List.mem_cons_self))
      obtain ⟨vs, hv⟩ := hf
      have hx : ObjOk X.prog X.w H s.heap dd (.xd fs) := I.hok dd _ hdd
      obtain ⟨mA, hns, hr⟩ := hx
      obtain ⟨od, ho, hl⟩ := lookIn_ns hns
      have J : PySem.W.InstAt s.heap a oe C (some od) := ⟨hget, hz.1, by unfold PySem.W.notCls; rw [hv] <;> rfl, by rw [hz.2]; exact ho⟩
      exact PySem.W.kia_one (PySem.W.kitx_exc (by obtain ⟨cd, hc, _⟩ := PySem.W.any_some T.hd; rw [hc]; rfl) T.hga T.hgt T.hs T.ha T.hn T.ht T.hm) I.kIn J e (fun z => nomatch z) fun tk => ⟨.bl b, H, I.kept (t' := tk) fun _ _ z => z, rfl, q⟩
def cIsE (a dd c : Nat) (tb : Nat → Option Bool) (i : Nat) : VEnv → Rs RV := fun env => match env[i]? with
  | some (some (.xo a' dd' c' fs)) => if a' = a ∧ dd' = dd ∧ c' = c then (rsO (tb c)).bind fun b => .ok (.d (.bool b)) else .no
  | _ => .no
theorem e_isE {a dd c i : Nat} {tb : Nat → Option Bool} {env : VEnv} : cIsE a dd c tb i env = match env[i]? with
  | some (some (.xo a' dd' c' fs)) => if a' = a ∧ dd' = dd ∧ c' = c then (rsO (tb c)).bind fun b => .ok (.d (.bool b)) else .no
  | _ => .no := rfl
section
variable {ca : Nat → Addr} {W : WX} {X : Cx}
theorem ve_isX {a dd c i : Nat} {tb : Nat → Option Bool} {oe : Obj} {pn : List (Addr × Obj)} {x x2 : Str} {p p1 p2 pos : Pos} {cv : V} {cu : Value} (T : ∀ c b, tb c = some b → IsE X.K (ca c) ∧ PySem.W.kitOne X.K (.ref (ca c)) cu = some b) (hz : Zc (.ref (ca c)) (some dd) oe) (hf : ∃ vs, oe.data = .fields vs)
    (hg : Gl X "isinstance") (hm : X.mg "isinstance" = none) (pc : PE (X.suite a ((a, oe) :: pn)) (.Name x2 p2) (tC cv)) (rc : ∀ u, RelV cv u → u = cu)
    (hN : X.N[i]? = some x) (hv : Vis X.env.scope x) (hd : (x == ("__debug__" : Str)) = false := by decide) (hcd : (x == ("__classdict__" : Str)) = false := by decide)
    (hs : starEach [.Name x p1, .Name x2 p2] X.env = (false, eval (.Name x p1) X.env) :: starEach [.Name x2 p2] X.env := by rfl) (hs2 : starEach [.Name x2 p2] X.env = (false, eval (.Name x2 p2) X.env) :: starEach [] X.env := by rfl) (hpl : (backTo pos (starEach [.Name x2 p2] X.env)).any (·.1) = false := by rfl) :
    VE ca W (X.suite a ((a, oe) :: pn)) (.Call (.Name "isinstance" p) [.Name x p1, .Name x2 p2] [] pos) (cIsE a dd c tb i) := by
  cases et : tb c with
  | none =>
    refine ⟨fun _ _ _ => False, ⟨fun _ _ _ _ _ _ h => h.elim⟩, fun B F env σ H Q st q => ?_⟩
    unfold cIsE at q
    rw [et] at q
    split at q
    · split at q <;> exact q.elim
    · exact q.elim
  | some b =>
    obtain ⟨T1, T2⟩ := T c b et
    refine ⟨_, pe_callB (X := X.suite a ((a, oe) :: pn)) (call_isX T1 hz hf) hg hm (by decide +kernel) (pa_cons (pe_var (X := X.suite a ((a, oe) :: pn)) hN hv hd hcd) (pa_cons pc pa_nil hs2) hs) (by decide) (by decide) hs hpl, fun B F env σ H Q st q => ?_⟩
    unfold cIsE at q
    rw [et] at q
    split at q
    · rename_i a' dd' c' fs e
      obtain ⟨v, ev, h⟩ := st.sl i _ e
      obtain ⟨rfl, xs, hdd, kd⟩ := h
      split at q
      · rename_i hcond
        obtain ⟨rfl, rfl, rfl⟩ := hcond
        exact ⟨_, ev, cv, cu, b, xs, rfl, rc, T2, hdd, q F H _ (Grow.refl st.cfg) (.bl b)⟩
      · exact q.elim
    · exact q.elim
theorem ve_isE {a dd c i : Nat} {tb : Nat → Option Bool} {oe : Obj} {pn : List (Addr × Obj)} {x x2 : Str} {p p1 p2 pos : Pos} {D : Addr} (T : ∀ c b, tb c = some b → IsE X.K (ca c) ∧ PySem.W.kitOne X.K (.ref (ca c)) (.ref D) = some b) (hz : Zc (.ref (ca c)) (some dd) oe) (hf : ∃ vs, oe.data = .fields vs)
    (hg : Gl X "isinstance") (hm : X.mg "isinstance" = none) (hg2 : Gl X x2) (hm2 : X.mg x2 = some (.ref D)) (hN : X.N[i]? = some x) (hv : Vis X.env.scope x) (hd : (x == ("__debug__" : Str)) = false := by decide) (hcd : (x == ("__classdict__" : Str)) = false := by decide) (hd2 : (x2 == ("__debug__" : Str)) = false := by decide)
    (hs : starEach [.Name x p1, .Name x2 p2] X.env = (false, eval (.Name x p1) X.env) :: starEach [.Name x2 p2] X.env := by rfl) (hs2 : starEach [.Name x2 p2] X.env = (false, eval (.Name x2 p2) X.env) :: starEach [] X.env := by rfl) (hpl : (backTo pos (starEach [.Name x2 p2] X.env)).any (·.1) = false := by rfl) :
    VE ca W (X.suite a ((a, oe) :: pn)) (.Call (.Name "isinstance" p) [.Name x p1, .Name x2 p2] [] pos) (cIsE a dd c tb i) :=
  ve_isX T hz hf hg hm (pe_glob (X := X.suite a ((a, oe) :: pn)) (v := .ref D) hg2 hm2 rfl hd2) (fun _ h => h) hN hv hd hcd hs hs2 hpl
theorem ve_isV {a dd c i : Nat} {tb : Nat → Option Bool} {oe : Obj} {pn : List (Addr × Obj)} {x x2 : Str} {p p1 p2 pos : Pos} {D : String} (T : ∀ c b, tb c = some b → IsE X.K (ca c) ∧ PySem.W.kitOne X.K (.ref (ca c)) (.type D) = some b) (hz : Zc (.ref (ca c)) (some dd) oe) (hf : ∃ vs, oe.data = .fields vs)
    (hg : Gl X "isinstance") (hm : X.mg "isinstance" = none) (hg2 : Gl X x2) (hm2 : X.mg x2 = none) (hv2 : bootBuiltins x2 = some (.type D)) (hN : X.N[i]? = some x) (hv : Vis X.env.scope x) (hn2 : x2 ≠ "__name__" := by decide) (hd : (x == ("__debug__" : Str)) = false := by decide) (hcd : (x == ("__classdict__" : Str)) = false := by decide) (hd2 : (x2 == ("__debug__" : Str)) = false := by decide)
    (hs : starEach [.Name x p1, .Name x2 p2] X.env = (false, eval (.Name x p1) X.env) :: starEach [.Name x2 p2] X.env := by rfl) (hs2 : starEach [.Name x2 p2] X.env = (false, eval (.Name x2 p2) X.env) :: starEach [] X.env := by rfl) (hpl : (backTo pos (starEach [.Name x2 p2] X.env)).any (·.1) = false := by rfl) :
    VE ca W (X.suite a ((a, oe) :: pn)) (.Call (.Name "isinstance" p) [.Name x p1, .Name x2 p2] [] pos) (cIsE a dd c tb i) :=
  ve_isX T hz hf hg hm (pe_bltn (X := X.suite a ((a, oe) :: pn)) (v := .ty D) hg2 hm2 hv2 rfl hn2 hd2) (fun _ h => h) hN hv hd hcd hs hs2 hpl
end
theorem kit_mk {K : PySem.W.Frag} {C D : Addr} {b : Bool} (hd : PySem.W.hasDictIn K D = true) (ty : PySem.W.typeIn K (.ref D) = some (.type "type")) (ss : PySem.W.subIn K (.ref D) (.ref D) = some true) (sb : PySem.W.subIn K (.ref C) (.ref D) = some b) : PySem.W.kitOne K (.ref C) (.ref D) = some b := by
  unfold PySem.W.kitOne
  split
  · rename_i h
    have e : C = D := Value.ref.inj (beq_iff_eq.mp h)
    subst e
    exact ss.symm.trans sb
  · obtain ⟨cd, hc, _⟩ := PySem.W.any_some hd
    have e2 : ((PySem.W.clsIn K D).isSome && PySem.W.typeIn K (.ref D) == some (.type "type")) = true := by rw [hc, ty] <;> rfl
    show (if ((PySem.W.clsIn K D).isSome && PySem.W.typeIn K (.ref D) == some (.type "type")) = true then PySem.W.subIn K (.ref C) (.ref D) else none) = some b
    rw [if_pos e2]
    exact sb
theorem kit_mkV {K : PySem.W.Frag} {C : Addr} {b : Bool} (sb : PySem.W.subIn K (.ref C) (.type "ValueError") = some b) : PySem.W.kitOne K (.ref C) (.type "ValueError") = some b := by
  unfold PySem.W.kitOne
  rw [if_neg (by intro h; cases (beq_iff_eq.mp h))]
  show (if PySem.W.kitMeta "ValueError" = true then PySem.W.subIn K (.ref C) (.type "ValueError") else none) = some b
  rw [if_pos (by decide +kernel)]
  exact sb
end VL

namespace VL
open PySem PySem.Spec PyProof.Rows L2
/-! ## sorted lists of tuples of ints (of any lengths, none empty) -/
def lxB : List Int → List Int → Bool
  | [], [] => false
  | [], _ :: _ => true
  | _ :: _, [] => false
  | a :: as, b :: bs => if a = b then lxB as bs else decide (a < b)
theorem lxB_irr : ∀ a, lxB a a = false
  | [] => rfl
  | a :: as => by unfold lxB; rw [if_pos rfl]; exact lxB_irr as
theorem lxB_tri : ∀ a b, lxB a b = false → lxB b a = false → a = b
  | [], [], _, _ => rfl
  | [], _ :: _, h, _ => by cases h
  | _ :: _, [], _, h => by cases h
  | a :: as, b :: bs, h, k => by
    unfold lxB at h k
    by_cases e : a = b
    · rw [if_pos e] at h
      rw [if_pos e.symm] at k
      rw [e, lxB_tri as bs h k]
    · rw [if_neg e, decide_eq_false_iff_not] at h
      rw [if_neg (Ne.symm e), decide_eq_false_iff_not] at k
      omega
theorem lxB_asym : ∀ a b, lxB a b = true → lxB b a = false
  | [], [], h => by cases h
  | [], _ :: _, _ => rfl
  | _ :: _, [], h => by cases h
  | a :: as, b :: bs, h => by
    unfold lxB at h ⊢
    by_cases e : a = b
    · rw [if_pos e] at h
      rw [if_pos e.symm]
      exact lxB_asym as bs h
    · rw [if_neg e, decide_eq_true_eq] at h
      rw [if_neg (Ne.symm e), decide_eq_false_iff_not]
      omega
theorem lxB_tr : ∀ a b c, lxB b a = false → lxB c b = false → lxB c a = false
  | [], _, [], _, _ => rfl
  | [], _, _ :: _, _, _ => rfl
  | _ :: _, [], _, h, _ => by cases h
  | _ :: _, _ :: _, [], _, k => by cases k
  | a :: as, b :: bs, c :: cs, h, k => by
    unfold lxB at h k ⊢
    by_cases e1 : b = a
    · rw [if_pos e1] at h
      by_cases e2 : c = b
      · rw [if_pos e2] at k
        rw [if_pos (e2.trans e1)]
        exact lxB_tr as bs cs h k
      · rw [if_neg e2, decide_eq_false_iff_not] at k
        rw [if_neg (fun z => e2 (z.trans e1.symm)), decide_eq_false_iff_not]
        omega
    · rw [if_neg e1, decide_eq_false_iff_not] at h
      by_cases e2 : c = b
      · rw [if_neg (fun z => e1 (e2.symm.trans z)), decide_eq_false_iff_not]
        omega
      · rw [if_neg e2, decide_eq_false_iff_not] at k
        by_cases e3 : c = a
        · omega
        · rw [if_neg e3, decide_eq_false_iff_not]
          omega
theorem swo_lx {α : Type} (k : α → List Int) : SrtO.Swo fun x y => lxB (k x) (k y) := ⟨fun x y => lxB_asym _ _, fun x y z h1 h2 => lxB_tr _ _ _ h1 h2⟩
/-- the comparison within the sort -/
def lxZ (z : Bool) : List Int → List Int → Bool
  | a :: as, b :: bs => if a = b then lxZ z as bs else decide (a < b)
  | _, _ => z
theorem lxZ_eq : ∀ as bs : List Int, lxZ (decide (as.length < bs.length)) as bs = lxB as bs := by
  have key : ∀ (as bs : List Int) (n : Nat), lxZ (decide (n + as.length < n + bs.length)) as bs = lxB as bs := by
    intro as
    induction as with
    | nil =>
      intro bs n
      cases bs with
      | nil => show decide _ = false; exact decide_eq_false (by simp)
      | cons b bs => show decide _ = true; exact decide_eq_true (by simp)
    | cons a as ih =>
      intro bs n
      cases bs with
      | nil => show decide _ = false; exact decide_eq_false (by simp)
      | cons b bs =>
        unfold lxZ lxB
        by_cases e : a = b
        · rw [if_pos e, if_pos e, ← ih bs (n + 1)]
          congr 1
          refine decide_eq_decide.mpr ?_
          rw [List.length_cons, List.length_cons]
          omega
        · rw [if_neg e, if_neg e]
  intro as bs
  have := key as bs 0
  simpa using this
section
variable {prog : Program} {w : World} {A : Around} {s : Shared}
theorem lex_any {b z : Bool} {Q : Bool → Shared → Prop} : ∀ {ns ms : List Int} {xs ys : List Value} (i : Nat), IntsAre xs ns → IntsAre ys ms → Q (lxZ z ns ms) s → PySem.W.KatLex prog w A b z Q (xs.zip ys) i s := by
  intro ns ms xs ys i hx
  induction hx generalizing ys ms i with
  | nil =>
    intro hy h
    exact PySem.W.kat_nil h
  | @cons p t xs ns hx ih =>
    intro hy h
    cases hy with
    | nil => exact PySem.W.kat_nil h
    | @cons q u ys ms hy =>
      show PySem.W.KatLex prog w A b z Q ((Value.int p t, Value.int q u) :: xs.zip ys) i s
      refine PySem.W.kat_cons (wpAny_eqBool_int ?_)
      unfold lxZ at h
      by_cases e : p = q
      · subst e
        rw [beq_self_eq_true]
        rw [if_pos rfl] at h
        exact PySem.W.kat_yes (ih (i + 1) hy h)
      · rw [show (p == q) = false from beq_eq_false_iff_ne.mpr e]
        rw [if_neg e] at h
        exact PySem.W.kat_no (TS.oneLt_ints _ h)
theorem tup_cmp {vs : List Value} {k : Value → List Int} (hp : ∀ v ∈ vs, TS.TupInts s.heap v (k v)) : SrtO.Cmp prog w A s (tuples' true) (fun p => p.1 ∈ vs) (SrtO.lt2 fun v u => lxB (k v) (k u)) := by
  intro p q hm hm'
  have h1 := hp _ hm
  have h2 := hp _ hm'
  show wpAny (model prog w) A (keyLt' (tuples' true) p.1 q.1) (fun r s' => s' = s ∧ r = lxB (k p.1) (k q.1)) (fun _ _ => False) s
  generalize k p.1 = ns at h1 ⊢
  generalize k q.1 = ms at h2 ⊢
  obtain ⟨a, xs, e1, ⟨o, ho, hc, n, hdt⟩, i⟩ := h1
  obtain ⟨a', ys, e2, ⟨o', ho', hc', n', hdt'⟩, i'⟩ := h2
  rw [e1, e2]
  refine PySem.W.kat_lt ho hdt ho' hdt' (lex_any 0 i i' ⟨rfl, ?_⟩)
  have l1 := i.length
  have l2 := i'.length
  rw [Array.length_toList] at l1 l2
  rw [l1, l2]
  exact lxZ_eq ns ms
theorem firsts_any {h : Heap} : ∀ {vs : List Value}, (∀ v ∈ vs, ∃ ns, TS.TupInts h v ns ∧ ns ≠ []) → ∃ fs : List Value, PySem.W.KatTups h vs fs ∧ fs.length = vs.length ∧ ∀ f ∈ fs, ∃ x t, f = Value.int x t
  | [], _ => ⟨[], PySem.W.KatTups.nil, rfl, fun _ hm => by simp at hm⟩
  | v :: vs, hp => by
    obtain ⟨fs, k, hl, hi⟩ := firsts_any (vs := vs) fun u hu => hp u (List.mem_cons_of_mem _ hu)
    obtain ⟨ns, ⟨a, xs, rfl, ⟨o, ho, hc, n, hdt⟩, i⟩, hn⟩ := hp v (List.mem_cons_self ..)
    obtain ⟨y, ys, e⟩ : ∃ y ys, xs.toList = y :: ys := by
      cases q : xs.toList with
      | nil =>
        rw [q] at i
        have l := i.length
        rw [List.length_nil] at l
        exact absurd (List.length_eq_zero_iff.mp l.symm) hn
      | cons y ys => exact ⟨y, ys, rfl⟩
    obtain ⟨m, t, hy⟩ := i.all y (by rw [e]; exact List.mem_cons_self ..)
    refine ⟨y :: fs, PySem.W.KatTups.cons ho hc hdt ?_ k, by simp [hl], ?_⟩
    · have z := congrArg (fun l : List Value => l[0]?) e
      simpa using z
    · intro f hf
      rcases List.mem_cons.mp hf with rfl | hf
      · exact ⟨m, t, hy⟩
      · exact hi f hf
theorem tups_sortable {a : Addr} {vs : List Value} {k : Value → List Int} (h0 : 0 < vs.length) (hp : ∀ v ∈ vs, TS.TupInts s.heap v (k v) ∧ k v ≠ []) (ha : ∀ o, s.heap.get? a = some o → o.cls ≠ .type "tuple") : SrtO.SortableO prog w A s a vs fun v u => lxB (k v) (k u) := by
  intro h' keep
  have hp' : ∀ v ∈ vs, TS.TupInts h' v (k v) ∧ k v ≠ [] := fun v hm => ⟨(hp v hm).1.keeps fun b o e c => keep b o (fun z => by subst z; exact ha o e c) e, (hp v hm).2⟩
  obtain ⟨fs, h1, h2, h3⟩ := firsts_any fun v hm => ⟨_, hp' v hm⟩
  refine ⟨tuples' true, fun Q E hq => ?_, tup_cmp fun v hm => (hp' v hm).1⟩
  refine PySem.W.kat_kind (T := .type "int") h1 (by omega) (fun f hm => ?_) (by rfl) ?_
  · obtain ⟨x, t, rfl⟩ := h3 f hm
    exact PySem.W.Looks.now
  · have e : (Value.type "int" != Value.type "tuple") = true := by first | decide +kernel | rfl | decide
    rw [e]
    exact hq
theorem sorted_tupsO {l : Addr} {vs : List Value} {k : Value → List Int} {Q : Value → Shared → Prop} {E : Value → Shared → Prop} (hl : s.heap.IsList l vs.toArray) (hz : vs.length ≤ sizeLine) (hp : ∀ v ∈ vs, TS.TupInts s.heap v (k v)) (hne : 2 ≤ vs.length → ∀ v ∈ vs, k v ≠ [])
    (h : ∀ (h' : Heap) (d : Addr) (out : List Value), SrtO.Srtd (fun v u => lxB (k v) (k u)) out → SrtO.Stb (fun v u => lxB (k v) (k u)) out vs → (∀ b o, s.heap.get? b = some o → h'.get? b = some o) → s.heap.objs.size ≤ d → (∃ n, h'.get? d = some (seqObj "list" out.toArray n)) → Q (.ref d) { s with heap := h' }) :
    wpAny (model prog w) A (call (.builtin "sorted") [.ref l]) Q E s := by
  refine SrtO.sorted_ord (swo_lx k) hl hz (fun h2 h₁ a ha kk => ?_) fun out hs hb => ?_
  · refine tups_sortable (s := { s with heap := h₁ }) (by omega) (fun v hm => ⟨(hp v hm).keeps fun b o e _ => (kk b o e).2, hne h2 v hm⟩) fun o e => ?_
    have e' : some o = some (seqObj "list" vs.toArray 0) := e.symm.trans ha
    cases e'
    intro c
    exact absurd (Value.type.inj c) (by decide)
  · exact h _ _ out hs hb (fun b o e => sortedAll_old e) (Nat.le_succ _) (sortedAll_at s.heap vs out.toArray)
end
/-- sorted(xs), xs a list of tuples of ints, none of them empty -/
def rSortedLT (K : PySem.W.Frag) : List V → Hp → VK → Prop := fun vs H Q => ∃ (a : Addr) (xs : List V) (k : V → List Int), vs = [V.ref a] ∧ SqL K H a xs ∧ (∀ x ∈ xs, ∃ t, x = V.ref t ∧ SqT K H t ((k x).map V.int)) ∧ (2 ≤ xs.length → ∀ x ∈ xs, k x ≠ []) ∧
  ∀ ys p, SrtO.Srtd (fun x y => lxB (k x) (k y)) ys → SrtO.Stb (fun x y => lxB (k x) (k y)) ys xs → H p = none → Q (.ref p) (upd H p (.lst ys))
theorem ints_are : ∀ {ns : List Int} {us : List Value}, Vals (ns.map V.int) us → IntsAre us ns
  | [], _, .nil => .nil
  | n :: ns, _, .cons r rs => by
    obtain ⟨t, rfl⟩ := r
    exact .cons n t (ints_are rs)
theorem cr_sortedLT {X : Cx} : CallR X (.builtin "sorted") (rSortedLT X.K) := by
  intro pins s σ H vs us Q I r h
  obtain ⟨a, xs, k, rfl, hs, hx, hne, q⟩ := h
  obtain ⟨its, rv, hl, hz⟩ := I.list hs
  obtain ⟨u, rfl, ru⟩ := vals1 r
  obtain rfl : u = Value.ref a := ru
  obtain ⟨e1, e2⟩ := refs_back rv fun x m => by
    obtain ⟨t, e, _⟩ := hx x m
    exact ⟨t, e⟩
  refine sorted_tupsO (k := fun u => k (backV u)) hl.isList (by rw [← rv.length]; exact hz) (fun v hv => ?_) (fun h2 v hv => ?_) fun h' d out h1 h2 kp hd hn => ?_
  · obtain ⟨t, rfl⟩ := e2 v hv
    have hm : V.ref t ∈ xs := by rw [e1]; exact List.mem_map.mpr ⟨_, hv, rfl⟩
    obtain ⟨t', e, ht⟩ := hx _ hm
    cases e
    obtain ⟨its2, r2, hT, _⟩ := I.tuple ht
    exact ⟨t, its2.toArray, rfl, hT, by
      have z := ints_are r2
      show IntsAre its2.toArray.toList (k (V.ref t))
      simpa using z⟩
  · obtain ⟨t, rfl⟩ := e2 v hv
    exact hne (by rw [rv.length]; exact h2) _ (by rw [e1]; exact List.mem_map.mpr ⟨_, hv, rfl⟩)
  · have h3 : ∀ u ∈ out, ∃ a, u = Value.ref a := fun u hu => e2 u (h2.perm.mem_iff.mp hu)
    obtain ⟨n, hn⟩ := hn
    have hb : SrtO.Stb (fun x y => lxB (k x) (k y)) (out.map backV) xs := by
      rw [e1]
      exact SrtO.Stb.map (swo_lx k) backV h2
    refine ⟨.ref d, upd H d (.lst (out.map backV)), I.laid (t' := s.toks) kp hd ⟨?_, out, n, vals_back h3, hn⟩, rfl, q _ d (SrtO.srtd_map h1) hb (I.hok.fresh hd)⟩
    rw [hb.len]
    exact hz
/-- a tuple of these ints -/
def TupR (K : PySem.W.Frag) (H : Hp) (x : V) (ns : List Int) : Prop := ∃ t, x = V.ref t ∧ SqT K H t (ns.map V.int)
def rSortedRows (K : PySem.W.Frag) : List V → Hp → VK → Prop := fun vs H Q => ∃ (a : Addr) (xs : List V) (rows : List (List Int)) (P : V → List Int → Prop), vs = [V.ref a] ∧ SqL K H a xs ∧ (∀ x ns, P x ns → TupR K H x ns) ∧ Paired P xs rows ∧ (2 ≤ rows.length → ∀ r ∈ rows, r ≠ []) ∧
  ∀ (ys : List V) (rows' : List (List Int)) p, Paired P ys rows' → rows'.Pairwise (fun a b => lxB b a = false) → rows'.Perm rows → H p = none → Q (.ref p) (upd H p (.lst ys))
theorem int_inj : ∀ {a b : List Int}, a.map V.int = b.map V.int → a = b
  | [], [], _ => rfl
  | [], _ :: _, h => by cases h
  | _ :: _, [], h => by cases h
  | a :: as, b :: bs, h => by
    rw [List.map_cons, List.map_cons] at h
    injection h with h1 h2
    injection h1 with h1
    rw [h1, int_inj h2]
theorem cr_sortedRows {X : Cx} : CallR X (.builtin "sorted") (rSortedRows X.K) := by
  intro pins s σ H vs us Q I r h
  obtain ⟨a, xs, rows, P, rfl, hs, hT, hp, hne, q⟩ := h
  obtain ⟨k, hk⟩ : ∃ k : V → List Int, ∀ x ns, TupR X.K H x ns → k x = ns := by
    classical
    refine ⟨fun x => if h : ∃ ns, TupR X.K H x ns then Classical.choose h else [], fun x ns hx => ?_⟩
    have hex : ∃ ns, TupR X.K H x ns := ⟨ns, hx⟩
    have e := Classical.choose_spec hex
    simp only [dif_pos hex]
    generalize Classical.choose hex = ms at e ⊢
    obtain ⟨t, e1, h1⟩ := e
    obtain ⟨t', e2, h2⟩ := hx
    rw [e1] at e2
    cases e2
    exact int_inj (I.tuple_inj h1 h2)
  have km : ∀ {xs : List V} {rows : List (List Int)}, Paired P xs rows → xs.map k = rows ∧ ∀ x ∈ xs, P x (k x) := by
    intro xs rows hp
    induction hp with
    | nil => exact ⟨rfl, fun x hx => by cases hx⟩
    | @cons x ns xs rows h1 _ ih =>
      have e := hk x ns (hT x ns h1)
      refine ⟨by rw [List.map_cons, e, ih.1], fun y hy => ?_⟩
      rcases List.mem_cons.mp hy with rfl | hy
      · rw [e]; exact h1
      · exact ih.2 y hy
  obtain ⟨k1, k2⟩ := km hp
  refine cr_sortedLT pins s σ H _ us Q I r ⟨a, xs, k, rfl, hs, fun x hx => hT _ _ (k2 x hx), fun h2 x hx => hne (by rw [← k1, List.length_map]; exact h2) _ (by rw [← k1]; exact List.mem_map_of_mem hx), fun ys p h1 h2 n => q ys (ys.map k) p ?_ (List.pairwise_map.mpr h1) ?_ n⟩
  · have : ∀ y ∈ ys, P y (k y) := fun y hy => k2 y (h2.perm.mem_iff.mp hy)
    clear h1 h2
    induction ys with
    | nil => exact .nil
    | cons y ys ih => exact .cons (this y List.mem_cons_self) (ih fun z hz => this z (List.mem_cons_of_mem _ hz))
  · rw [← k1]
    exact h2.perm.map k
def insT (x : List Int) : List (List Int) → List (List Int)
  | [] => [x]
  | y :: ys => if lxB y x = true then y :: insT x ys else x :: y :: ys
def isortT : List (List Int) → List (List Int)
  | [] => []
  | x :: xs => insT x (isortT xs)
theorem insT_perm (x : List Int) : ∀ ys, (insT x ys).Perm (x :: ys)
  | [] => .refl _
  | y :: ys => by
    unfold insT
    split
    · exact ((insT_perm x ys).cons y).trans (.swap x y ys)
    · exact .refl _
theorem isortT_perm : ∀ xs, (isortT xs).Perm xs
  | [] => .refl _
  | x :: xs => (insT_perm x _).trans ((isortT_perm xs).cons x)
theorem insT_sorted (x : List Int) : ∀ {ys : List (List Int)}, ys.Pairwise (fun a b => lxB b a = false) → (insT x ys).Pairwise (fun a b => lxB b a = false)
  | [], _ => by simp [insT]
  | y :: ys, h => by
    have h1 := List.pairwise_cons.mp h
    unfold insT
    split
    · rename_i c
      refine List.pairwise_cons.mpr ⟨fun z hz => ?_, insT_sorted x h1.2⟩
      rcases List.mem_cons.mp ((insT_perm x ys).mem_iff.mp hz) with rfl | hz
      · exact lxB_asym _ _ c
      · exact h1.1 z hz
    · rename_i c
      have c : lxB y x = false := by simpa using c
      refine List.pairwise_cons.mpr ⟨fun z hz => ?_, h⟩
      rcases List.mem_cons.mp hz with rfl | hz
      · exact c
      · exact lxB_tr _ _ _ c (h1.1 z hz)
theorem isortT_sorted : ∀ xs, (isortT xs).Pairwise (fun a b => lxB b a = false)
  | [] => .nil
  | x :: xs => insT_sorted x (isortT_sorted xs)
theorem sortedT_uniq : ∀ {xs ys : List (List Int)}, xs.Perm ys → xs.Pairwise (fun a b => lxB b a = false) → ys.Pairwise (fun a b => lxB b a = false) → xs = ys
  | [], ys, p, _, _ => (List.Perm.nil_eq p)
  | x :: xs, [], p, _, _ => by have := p.length_eq; simp at this
  | x :: xs, y :: ys, p, h1, h2 => by
    have a1 := List.pairwise_cons.mp h1
    have a2 := List.pairwise_cons.mp h2
    have e : x = y := by
      rcases List.mem_cons.mp (p.mem_iff.mp List.mem_cons_self) with e | hx
      · exact e
      · rcases List.mem_cons.mp (p.mem_iff.mpr List.mem_cons_self) with e | hy
        · exact e.symm
        · exact lxB_tri x y (a2.1 x hx) (a1.1 y hy)
    subst e
    rw [sortedT_uniq p.cons_inv a1.2 a2.2]
def tupsI : List PyData → Option (List (List Int))
  | [] => some []
  | .tuple xs :: r => (intsD xs).bind fun ns => (tupsI r).map (ns :: ·)
  | _ => none
theorem tups_ok {K : PySem.W.Frag} {F : Hp} : ∀ {xs : List PyData} {vs : List V} {rows : List (List Int)}, DqA K F vs xs → tupsI xs = some rows → Paired (TupR K F) vs rows
  | [], _, _, h, e => by cases h; cases e; exact .nil
  | x :: xs, _, rows, h, e => by
    cases h with
    | cons h1 h2 =>
      cases x with
      | tuple ds =>
        unfold tupsI at e
        cases e1 : intsD ds with
        | none => rw [e1] at e; cases e
        | some ns =>
          rw [e1] at e
          simp only [Option.bind_some] at e
          obtain ⟨r, e2, e3⟩ := Option.map_eq_some_iff.mp e
          subst e3
          cases h1 with
          | tup q1 q2 =>
            have := ints_ok q2 e1
            subst this
            exact .cons ⟨_, rfl, q1⟩ (tups_ok h2 e2)
      | _ => cases e
theorem tups_dq {K : PySem.W.Frag} {F : Hp} : ∀ {vs : List V} {rows : List (List Int)}, Paired (TupR K F) vs rows → DqA K F vs (rows.map fun r => .tuple (r.map .int))
  | _, _, .nil => .nil
  | _, _, .cons ⟨t, e, h⟩ r => by
    subst e
    exact .cons (.tup h (DqA.of_ints _)) (tups_dq r)
def gSortedT : List RV → Rs RV
  | [r] => (rsO r.qv).bind fun xs => (rsO (tupsI xs)).bind fun rows => if rows.length < 2 ∨ rows.all (fun r => !r.isEmpty) = true then .ok (.ol ((isortT rows).map fun r => .tuple (r.map .int))) else .no
  | _ => .no
theorem e_sortedT (r : RV) : gSortedT [r] = (rsO r.qv).bind fun xs => (rsO (tupsI xs)).bind fun rows => if rows.length < 2 ∨ rows.all (fun r => !r.isEmpty) = true then .ok (.ol ((isortT rows).map fun r => .tuple (r.map .int))) else .no := rfl
theorem c_sortedT {K : PySem.W.Frag} {ca : Nat → Addr} : CaS K ca (rSortedRows K) gSortedT := by
  intro W σ F0 H0 F H vs as Q gr h p
  unfold gSortedT at p
  split at p
  · rename_i r
    obtain ⟨v, rfl, hx⟩ := pr1 h
    cases e : r.qv with
    | none => rw [e] at p; exact p.elim
    | some xs =>
      rw [e] at p
      simp only [rsO_some, Rs.bind_ok] at p
      cases e2 : tupsI xs with
      | none => rw [e2] at p; exact p.elim
      | some rows =>
        rw [e2] at p
        simp only [rsO_some, Rs.bind_ok] at p
        by_cases hc : rows.length < 2 ∨ rows.all (fun r => !r.isEmpty) = true
        rotate_left
        · rw [if_neg hc] at p; exact p.elim
        rw [if_pos hc] at p
        obtain ⟨q, ws, rfl, hq, dq⟩ := qv_ok gr.cfg.sub hx e
        refine ⟨q, ws, rows, TupR K F, rfl, hq, fun x ns ⟨t, e3, h3⟩ => ⟨t, e3, same_seqT gr.cfg.sub h3⟩, tups_ok dq e2, fun h2 r hr => ?_, fun ys rows' l py so pm hl => ?_⟩
        · rcases hc with hc | hc
          · omega
          · have := (List.all_eq_true.mp hc) r hr
            intro z
            rw [z] at this
            cases this
        have e3 : rows' = isortT rows := sortedT_uniq (pm.trans (isortT_perm rows).symm) so (isortT_sorted rows)
        subst e3
        have g2 := Grow.newO gr.cfg (.lst ys) hl (fun _ z => by cases z)
        exact p _ _ _ (gr.trans g2) ⟨l, _, rfl, same_none gr.hh hl, same_none gr.cfg.sub hl, upd_same, tups_dq py⟩
  · exact p.elim
end VL

namespace VL
open PySem PySem.Spec PyProof.Rows L2 HT
/-! ## sorted lists of tuples of ints, empty ones among them: any kind of comparison -/
theorem lexLt_lxB : ∀ a b : List Int, lexLt a b = lxB a b
  | [], [] => rfl
  | [], _ :: _ => rfl
  | _ :: _, [] => rfl
  | x :: xs, y :: ys => by
    rw [lexLt_cons, lexLt_lxB xs ys]
    conv => rhs; unfold lxB
section
variable {prog : Program} {w : World} {A : Around} {s : Shared} {E : Value → Shared → Prop}
theorem slotLt {x y : Value} {ns ms : List Int} {Q : Bool → Shared → Prop} (hx : TS.TupInts s.heap x ns) (hy : TS.TupInts s.heap y ms) (room : A.units < cLine) (hq : Q (lxB ns ms) s) : wpAny (model prog w) A (oneLt' true x y) Q E s := by
  obtain ⟨l, vs, rfl, hl, hi⟩ := hx
  obtain ⟨b, us, rfl, hb, hj⟩ := hy
  obtain ⟨⟨c1, d1, p1, sl1⟩, o1, q1, n1, r1⟩ := id hl
  obtain ⟨⟨c2, d2, p2, sl2⟩, o2, q2, n2, r2⟩ := id hb
  simp only at q1 r1 q2 r2
  subst q1 r1 q2 r2
  rw [oneLt'_eq]
  simp only [if_true]
  refine wpAny_bind (wpAny_cRoomFor room ?_)
  refine wpAny_bind (wpAny_callSpecialIfBound?_slot (T := "tuple") ⟨_, o1, rfl⟩ PySem.F.slot_tuple_lt (call_meets PySem.F.slot_tuple_lt ⟨_, o1, rfl⟩ PySem.F.entry_tuple_lt (PySem.F.args_tuple_lt_2 _ _) (tuple_lt_ints l b vs us n1 n2 d1 d2 sl1 sl2 ns ms hi hj) ⟨o1, o2, ?_⟩))
  rw [lexLt_lxB]
  exact wpAny_truthy_bool hq
theorem richLt {x y : Value} {ns ms : List Int} {Q : Bool → Shared → Prop} (hx : TS.TupInts s.heap x ns) (hy : TS.TupInts s.heap y ms) (room : A.units < cLine) (hq : Q (lxB ns ms) s) : wpAny (model prog w) A (oneLt' false x y) Q E s := by
  obtain ⟨l, vs, rfl, hl, hi⟩ := hx
  obtain ⟨b, us, rfl, hb, hj⟩ := hy
  refine PySem.W.kat_one _ _ (lt_tupInts hl hb hi hj room ?_)
  rw [lexLt_lxB]
  exact hq
/-- the first elements, where there are some -/
theorem firsts_some {A : Around} : ∀ (vs : List Value) {k : Value → List Int}, (∀ v ∈ vs, TS.TupInts s.heap v (k v)) → ∃ os : List (Option Value), os.length = vs.length ∧ (∀ (i : Nat) (v : Value), vs[i]? = some v → ∃ o : Option Value, os[i]? = some o ∧ (o.isSome = true ↔ k v ≠ [])) ∧
    ∀ {M : Model} {Q : List (Option Value) → Shared → Prop} {E : Value → Shared → Prop}, Q os s → wpAny M A (vs.mapM firstOfTuple') Q E s
  | [], k, _ => ⟨[], rfl, fun i v h => by simp at h, fun h => by rw [List.mapM_nil]; exact wpAny_pure h⟩
  | v :: vs, k, hp => by
    obtain ⟨os, l1, h1, h2⟩ := firsts_some vs (k := k) fun u hu => hp u (List.mem_cons_of_mem _ hu)
    obtain ⟨a, xs, rfl, ⟨o, ho, hc, n, hd⟩, hi⟩ := hp v List.mem_cons_self
    refine ⟨xs[0]? :: os, by simp [l1], fun i u hu => ?_, fun {M Q E} hq => ?_⟩
    · cases i with
      | zero =>
        obtain rfl : Value.ref a = u := by simpa using hu
        refine ⟨_, rfl, ?_⟩
        have l := hi.length
        rw [Array.length_toList] at l
        rw [Option.isSome_iff_ne_none]
        constructor
        · intro z e
          apply z
          rw [e] at l
          exact Array.getElem?_eq_none (by simpa using Nat.le_of_eq l)
        · intro z e
          have := Array.getElem?_eq_none_iff.mp e
          have l0 : (k (.ref a)).length = 0 := by omega
          exact z (List.length_eq_zero_iff.mp l0)
      | succ i => exact h1 i u (by simpa using hu)
    · rw [List.mapM_cons]
      refine wpAny_bind ?_
      rw [PySem.W.kas_first_eq]
      refine wpAny_bind (PySem.W.Looks.here (show PySem.W.Looks M s.heap (typeOf (.ref a)) o.cls from (PySem.W.Looks.ld ho).andThen .now) ?_)
      have ne : (o.cls != Value.type "tuple") = false := by rw [hc]; decide +kernel
      rw [ne, if_neg Bool.false_ne_true]
      refine wpAny_bind (listItems_at ho hd (wpAny_pure ?_))
      exact wpAny_bind (h2 (Q := fun bs s' => wpAny M A (pure (xs[0]? :: bs)) Q E s') (wpAny_pure hq))
theorem kind_mixed {vs : List Value} {k : Value → List Int} (hp : ∀ v ∈ vs, TS.TupInts s.heap v (k v)) (hm : ∃ v ∈ vs, k v = []) : ∃ κ : SortKind, (κ = oneType' ∨ κ = general') ∧ ∀ (M : Model) (Q : SortKind → Shared → Prop) (E : Value → Shared → Prop), Q κ s → wpAny M A (keyKind' vs.toArray) Q E s := by
  obtain ⟨os, l1, h1, h2⟩ := firsts_some (A := A) vs hp
  have na : (os.toArray.all fun x => x.isSome) = false := by
    obtain ⟨v, hv, e⟩ := hm
    obtain ⟨i, hi, rfl⟩ := List.getElem_of_mem hv
    obtain ⟨o, ho, hs⟩ := h1 i vs[i] (List.getElem?_eq_getElem hi)
    have : o.isSome = false := by
      cases h : o.isSome with
      | false => rfl
      | true => exact absurd e (hs.mp h)
    rw [List.all_toArray, List.all_eq_false]
    exact ⟨o, List.mem_of_getElem? ho, by rw [this]; simp⟩
  refine ⟨if (os.toArray[0]?.bind id).isSome then general' else oneType', by split <;> simp, fun M Q E hq => ?_⟩
  rw [keyKind'_eq, List.mapM_toArray, map_eq_pure_bind]
  refine wpAny_bind (wpAny_bind (h2 (wpAny_pure ?_)))
  rw [na, if_neg Bool.false_ne_true]
  split
  · rename_i c
    rw [if_pos c] at hq
    exact wpAny_pure hq
  · rename_i c
    rw [if_neg c] at hq
    rw [oneTypeOnly'_eq, List.mapM_toArray, map_eq_pure_bind]
    refine wpAny_bind (wpAny_bind (wpAny_bind (PySem.W.kas_mapM (r := Value.type "tuple") _ (fun v hv Q' hq' => ?_) (wpAny_pure ?_))))
    · obtain ⟨a, xs, rfl, ⟨o, ho, hc, n, hd⟩, hi⟩ := hp v hv
      rw [← hc] at hq'
      exact PySem.W.Looks.here (show PySem.W.Looks M s.heap (typeOf (.ref a)) o.cls from (PySem.W.Looks.ld ho).andThen .now) hq'
    · have h0 : (List.map (fun _ => Value.type "tuple") vs).toArray[0]? = some (Value.type "tuple") := by
        obtain ⟨v, hv, _⟩ := hm
        cases vs with
        | nil => cases hv
        | cons x xs => simp
      have hall : ((List.map (fun _ => Value.type "tuple") vs).toArray.all fun x => x == Value.type "tuple") = true := by
        rw [List.all_toArray, List.all_eq_true]
        intro x hx
        obtain ⟨_, _, rfl⟩ := List.mem_map.mp hx
        decide +kernel
      rw [h0]
      simp only [hall, if_true]
      exact wpAny_pure (wpAny_pure hq)
theorem any_sortable {a : Addr} {vs : List Value} {k : Value → List Int} (room : A.units < cLine) (h0 : 0 < vs.length) (hp : ∀ v ∈ vs, TS.TupInts s.heap v (k v)) (ha : ∀ o, s.heap.get? a = some o → o.cls ≠ .type "tuple") : SrtO.SortableO prog w A s a vs fun v u => lxB (k v) (k u) := by
  by_cases hne : ∀ v ∈ vs, k v ≠ []
  · exact tups_sortable h0 (fun v hv => ⟨hp v hv, hne v hv⟩) ha
  have hex : ∃ v ∈ vs, k v = [] := by
    obtain ⟨v, e⟩ := Classical.not_forall.mp hne
    obtain ⟨hv, e⟩ := Classical.not_imp.mp e
    exact ⟨v, hv, Classical.not_not.mp e⟩
  intro h' keep
  have hp' : ∀ v ∈ vs, TS.TupInts h' v (k v) := fun v hm => (hp v hm).keeps fun b o e c => keep b o (fun z => by subst z; exact ha o e c) e
  obtain ⟨κ, hκ, hk⟩ := kind_mixed (s := { s with heap := h' }) (A := A) hp' hex
  refine ⟨κ, fun Q E hq => hk _ Q E hq, fun p q hm hm' => ?_⟩
  rcases hκ with rfl | rfl
  · exact slotLt (hp' _ hm) (hp' _ hm') room ⟨rfl, rfl⟩
  · exact richLt (hp' _ hm) (hp' _ hm') room ⟨rfl, rfl⟩
theorem sorted_tupsA {l : Addr} {vs : List Value} {k : Value → List Int} {Q : Value → Shared → Prop} {E : Value → Shared → Prop} (hl : s.heap.IsList l vs.toArray) (hz : vs.length ≤ sizeLine) (hp : ∀ v ∈ vs, TS.TupInts s.heap v (k v)) (room : A.units + 2 < cLine)
    (h : ∀ (h' : Heap) (d : Addr) (out : List Value), SrtO.Srtd (fun v u => lxB (k v) (k u)) out → SrtO.Stb (fun v u => lxB (k v) (k u)) out vs → (∀ b o, s.heap.get? b = some o → h'.get? b = some o) → s.heap.objs.size ≤ d → (∃ n, h'.get? d = some (seqObj "list" out.toArray n)) → Q (.ref d) { s with heap := h' }) :
    wpAny (model prog w) A (call (.builtin "sorted") [.ref l]) Q E s := by
  refine SrtO.sorted_ord (swo_lx k) hl hz (fun h2 h₁ a ha kk => ?_) fun out hs hb => ?_
  · refine any_sortable (s := { s with heap := h₁ }) room (by omega) (fun v hm => (hp v hm).keeps fun b o e _ => (kk b o e).2) fun o e => ?_
    have e' : some o = some (seqObj "list" vs.toArray 0) := e.symm.trans ha
    cases e'
    intro c
    exact absurd (Value.type.inj c) (by decide)
  · exact h _ _ out hs hb (fun b o e => sortedAll_old e) (Nat.le_succ _) (sortedAll_at s.heap vs out.toArray)
end
def rSortedLA (K : PySem.W.Frag) : List V → Hp → VK → Prop := fun vs H Q => ∃ (a : Addr) (xs : List V) (k : V → List Int), vs = [V.ref a] ∧ SqL K H a xs ∧ (∀ x ∈ xs, ∃ t, x = V.ref t ∧ SqT K H t ((k x).map V.int)) ∧
  ∀ ys p, SrtO.Srtd (fun x y => lxB (k x) (k y)) ys → SrtO.Stb (fun x y => lxB (k x) (k y)) ys xs → H p = none → Q (.ref p) (upd H p (.lst ys))
theorem cr_sortedLA {X : Cx} (hu : X.A.units + 65 < cLine) : CallR X (.builtin "sorted") (rSortedLA X.K) := by
  intro pins s σ H vs us Q I r h
  obtain ⟨a, xs, k, rfl, hs, hx, q⟩ := h
  obtain ⟨its, rv, hl, hz⟩ := I.list hs
  obtain ⟨u, rfl, ru⟩ := vals1 r
  obtain rfl : u = Value.ref a := ru
  obtain ⟨e1, e2⟩ := refs_back rv fun x m => by
    obtain ⟨t, e, _⟩ := hx x m
    exact ⟨t, e⟩
  refine sorted_tupsA (k := fun u => k (backV u)) hl.isList (by rw [← rv.length]; exact hz) (fun v hv => ?_) (by omega) fun h' d out h1 h2 kp hd hn => ?_
  · obtain ⟨t, rfl⟩ := e2 v hv
    have hm : V.ref t ∈ xs := by rw [e1]; exact List.mem_map.mpr ⟨_, hv, rfl⟩
    obtain ⟨t', e, ht⟩ := hx _ hm
    cases e
    obtain ⟨its2, r2, hT, _⟩ := I.tuple ht
    exact ⟨t, its2.toArray, rfl, hT, by
      have z := ints_are r2
      show IntsAre its2.toArray.toList (k (V.ref t))
      simpa using z⟩
  · have h3 : ∀ u ∈ out, ∃ a, u = Value.ref a := fun u hu => e2 u (h2.perm.mem_iff.mp hu)
    obtain ⟨n, hn⟩ := hn
    have hb : SrtO.Stb (fun x y => lxB (k x) (k y)) (out.map backV) xs := by
      rw [e1]
      exact SrtO.Stb.map (swo_lx k) backV h2
    refine ⟨.ref d, upd H d (.lst (out.map backV)), I.laid (t' := s.toks) kp hd ⟨?_, out, n, vals_back h3, hn⟩, rfl, q _ d (SrtO.srtd_map h1) hb (I.hok.fresh hd)⟩
    rw [hb.len]
    exact hz
def rSortedRowsA (K : PySem.W.Frag) : List V → Hp → VK → Prop := fun vs H Q => ∃ (a : Addr) (xs : List V) (rows : List (List Int)) (P : V → List Int → Prop), vs = [V.ref a] ∧ SqL K H a xs ∧ (∀ x ns, P x ns → TupR K H x ns) ∧ Paired P xs rows ∧
  ∀ (ys : List V) (rows' : List (List Int)) p, Paired P ys rows' → rows'.Pairwise (fun a b => lxB b a = false) → rows'.Perm rows → H p = none → Q (.ref p) (upd H p (.lst ys))
theorem cr_sortedRowsA {X : Cx} (hu : X.A.units + 65 < cLine) : CallR X (.builtin "sorted") (rSortedRowsA X.K) := by
  intro pins s σ H vs us Q I r h
  obtain ⟨a, xs, rows, P, rfl, hs, hT, hp, q⟩ := h
  obtain ⟨k, hk⟩ : ∃ k : V → List Int, ∀ x ns, TupR X.K H x ns → k x = ns := by
    classical
    refine ⟨fun x => if h : ∃ ns, TupR X.K H x ns then Classical.choose h else [], fun x ns hx => ?_⟩
    have hex : ∃ ns, TupR X.K H x ns := ⟨ns, hx⟩
    have e := Classical.choose_spec hex
    simp only [dif_pos hex]
    generalize Classical.choose hex = ms at e ⊢
    obtain ⟨t, e1, h1⟩ := e
    obtain ⟨t', e2, h2⟩ := hx
    rw [e1] at e2
    cases e2
    exact int_inj (I.tuple_inj h1 h2)
  have km : ∀ {xs : List V} {rows : List (List Int)}, Paired P xs rows → xs.map k = rows ∧ ∀ x ∈ xs, P x (k x) := by
    intro xs rows hp
    induction hp with
    | nil => exact ⟨rfl, fun x hx => by cases hx⟩
    | @cons x ns xs rows h1 _ ih =>
      have e := hk x ns (hT x ns h1)
      refine ⟨by rw [List.map_cons, e, ih.1], fun y hy => ?_⟩
      rcases List.mem_cons.mp hy with rfl | hy
      · rw [e]; exact h1
      · exact ih.2 y hy
  obtain ⟨k1, k2⟩ := km hp
  refine cr_sortedLA hu pins s σ H _ us Q I r ⟨a, xs, k, rfl, hs, fun x hx => hT _ _ (k2 x hx), fun ys p h1 h2 n => q ys (ys.map k) p ?_ (List.pairwise_map.mpr h1) ?_ n⟩
  · have : ∀ y ∈ ys, P y (k y) := fun y hy => k2 y (h2.perm.mem_iff.mp hy)
    clear h1 h2
    induction ys with
    | nil => exact .nil
    | cons y ys ih => exact .cons (this y List.mem_cons_self) (ih fun z hz => this z (List.mem_cons_of_mem _ hz))
  · rw [← k1]
    exact h2.perm.map k
/-- sorted(xs), xs a list of tuples of ints -/
def gSortedA : List RV → Rs RV
  | [r] => (rsO r.qv).bind fun xs => (rsO (tupsI xs)).bind fun rows => .ok (.ol ((isortT rows).map fun r => .tuple (r.map .int)))
  | _ => .no
theorem e_sortedA (r : RV) : gSortedA [r] = (rsO r.qv).bind fun xs => (rsO (tupsI xs)).bind fun rows => .ok (.ol ((isortT rows).map fun r => .tuple (r.map .int))) := rfl
theorem c_sortedA {K : PySem.W.Frag} {ca : Nat → Addr} : CaS K ca (rSortedRowsA K) gSortedA := by
  intro W σ F0 H0 F H vs as Q gr h p
  unfold gSortedA at p
  split at p
  · rename_i r
    obtain ⟨v, rfl, hx⟩ := pr1 h
    cases e : r.qv with
    | none => rw [e] at p; exact p.elim
    | some xs =>
      rw [e] at p
      simp only [rsO_some, Rs.bind_ok] at p
      cases e2 : tupsI xs with
      | none => rw [e2] at p; exact p.elim
      | some rows =>
        rw [e2] at p
        simp only [rsO_some, Rs.bind_ok] at p
        obtain ⟨q, ws, rfl, hq, dq⟩ := qv_ok gr.cfg.sub hx e
        refine ⟨q, ws, rows, TupR K F, rfl, hq, fun x ns ⟨t, e3, h3⟩ => ⟨t, e3, same_seqT gr.cfg.sub h3⟩, tups_ok dq e2, fun ys rows' l py so pm hl => ?_⟩
        have e3 : rows' = isortT rows := sortedT_uniq (pm.trans (isortT_perm rows).symm) so (isortT_sorted rows)
        subst e3
        have g2 := Grow.newO gr.cfg (.lst ys) hl (fun _ z => by cases z)
        exact p _ _ _ (gr.trans g2) ⟨l, _, rfl, same_none gr.hh hl, same_none gr.cfg.sub hl, upd_same, tups_dq py⟩
  · exact p.elim
end VL

namespace VL
open PySem PySem.Spec PyProof.Rows L2
/-! ## a dict whose keys are tuples of ints: its keys walked, the greatest of its values -/
section
variable {X : Cx} {pins : List (Addr × Obj)} {σ : L2.St} {H : Hp} {s : Shared} {d : Addr} {n : Nat} {xs : List (List Int × Addr × Value)}
theorem dto_raw (I : Inv X pins σ H s) (h : H d = some (DTO d (n, xs))) : (d == sysModules) = false ∧ ∃ (o : Obj) (es : Array DictEntry), s.heap.get? d = some o ∧ o.ExactDict ∧ o.data = .dict es n ∧ es.size = xs.length ∧ ∀ (i : Nat) (e : List Int × Addr × Value), xs[i]? = some e → ∃ en : DictEntry, es[i]? = some en ∧ en.key = .ref e.2.1 ∧ en.val = e.2.2 := by
  obtain ⟨⟨o, es, h1, h2, h3, h4, h5, h6, h7⟩, _⟩ := (show ObjOk X.prog X.w H s.heap d (.ext (DTOk d (n, xs))) from I.hok d _ h)
  refine ⟨h7, o, es, h1, h2, h3, ?_, fun i e he => ?_⟩
  · have := congrArg List.length h4
    rw [List.length_map, Array.length_toList] at this
    exact this
  · refine ⟨⟨hashT e.1, .ref e.2.1, e.2.2⟩, ?_, rfl, rfl⟩
    have hx : xs[i]? = some e := he
    rw [← Array.getElem?_toList, h4]
    show ((xs.map _)[i]? : Option DictEntry) = _
    rw [List.getElem?_map, hx]
    rfl
end
def ItT (d : Addr) (n : Nat) (xs : List (List Int × Addr × Value)) : It :=
  ⟨fun i H => H d = some (DTO d (n, xs)) ∧ i < xs.length, fun i H x H' => H' = H ∧ ∃ e, xs[i]? = some e ∧ x = .ref e.2.1, fun i H => H d = some (DTO d (n, xs)) ∧ xs.length ≤ i⟩
theorem turn_dto {P : Program} {w : World} {K : PySem.W.Frag} {tg : Expr} {d : Addr} {n : Nat} {xs : List (List Int × Addr × Value)} (it : Addr) : Turn P w K tg (ItT d n xs) [it] it (fun i h => h.IsKeyIter it d i xs.length n) where
  mem := List.mem_singleton.mpr rfl
  obj := fun i h hit b hb => by
    obtain rfl : b = it := List.mem_singleton.mp hb
    obtain ⟨ob, g1, g2, g3⟩ := hit
    exact ⟨ob, g1, fun v z => nomatch (g3.symm.trans z)⟩
  keep := fun i h h' hit same => hit.at fun ob g => same it (List.mem_singleton.mpr rfl) ob g
  item := by
    intro X hP hw hK hc i pins s σ H E I ff hit hgo
    subst hP hw hK
    obtain ⟨hd, hi⟩ := hgo
    obtain ⟨a0, a1, a2, a3, a4, a5⟩ := ff it (List.mem_singleton.mpr rfl)
    obtain ⟨_, o, es, g1, g2, g3, g4, g5⟩ := dto_raw I hd
    obtain ⟨en, g6, g7, _⟩ := g5 i xs[i] (List.getElem?_eq_getElem hi)
    refine next_key_item hit g1 g3 g4 g6 fun h' hit' same => ?_
    have I1 : Inv X pins σ H { s with heap := h' } := I.turned (t' := s.toks) (fun b ob nb g => (same.2 b nb).trans g) a0 a1 a3 a4 a5
    obtain ⟨oi, q1, q2, q3⟩ := id hit'
    exact ⟨en.key, rfl, go_of (s := { s with heap := h' }) q1 q2 q3 (by decide) ⟨.ref xs[i].2.1, H, I1, g7, ⟨rfl, xs[i], List.getElem?_eq_getElem hi, rfl⟩, hit', fun b hb => (ff b hb).1⟩⟩
  done := by
    intro X hP hw hK hc i pins s σ H E I ff hit hgo
    subst hP hw hK
    obtain ⟨hd, hi⟩ := hgo
    obtain ⟨a0, a1, a2, a3, a4, a5⟩ := ff it (List.mem_singleton.mpr rfl)
    obtain ⟨_, o, es, g1, g2, g3, g4, g5⟩ := dto_raw I hd
    exact next_key_end (I.ok.hd hc) hit g1 g3 g4 hi fun h' eb => ⟨rfl, I.turned (t' := s.toks) (fun b ob nb g => eb b ob nb g) a0 a1 a3 a4 a5⟩
  self := fun A i s Q E hit k => wpAny_pyIter_keyiter hit k
def iKeysO (td : TE) : TI := fun σ H R => td σ H fun x H1 => ∃ d n xs, x = .ref d ∧ H1 d = some (DTO d (n, xs)) ∧ R (ItT d n xs) H1
theorem pi_keysO {X : Cx} {tg e : Expr} {td : TE} (he : PE X e td) : PI X tg e (iKeysO td) := by
  refine ⟨fun pins s σ H R I h => thn (he.run pins s σ H _ I h) fun u s1 ⟨x, H1, I1, rx, d, n, xs, ex, hd, q⟩ => ?_⟩
  subst ex
  obtain rfl : u = Value.ref d := rx
  obtain ⟨g0, o, es, g1, g2, g3, g4, g5⟩ := dto_raw I1 hd
  refine iter_keys g0 g1 g2 g3 (pi_one (tk := s1.toks) I1 _ (turn_dto _) ⟨_, Heap.get?_push_size _ rfl, rfl, ?_⟩ q)
  rw [g4]
  rfl
theorem jw_dto {G : Hp} {d : Addr} {n : Nat} {xs : List (List Int × Addr × Value)} (h : G d = some (DTO d (n, xs))) : JWalk (ItT d n xs) G (xs.map fun e => V.ref e.2.1) where
  go := fun i H s hi => ⟨s _ _ h, by simpa using hi⟩
  yld := fun i H x H' s y hi => by
    obtain ⟨e1, e, e2, e3⟩ := y
    exact ⟨e1, by rw [List.getElem?_map, e2, e3]; rfl⟩
  stop := fun H s => ⟨s _ _ h, by simp⟩
theorem ktl_keys {K : PySem.W.Frag} {F : Hp} : ∀ {xs : List (List Int × Addr × Value)} {kvs : List (List Int × PyData)}, KTl K F xs kvs → DqA K F (xs.map fun e => V.ref e.2.1) (kvs.map fun e => .tuple (e.1.map .int))
  | _, _, .nil => .nil
  | _, _, .cons h r => .cons (.tup (by have := h.2.1; rw [h.1] at this; exact this) (DqA.of_ints _)) (ktl_keys r)
/-- the keys of a dict -/
def iD (fe : VEnv → Rs RV) : VEnv → Rs (List PyData) := fun env => (fe env).bind fun r => (rsO r.dt).bind fun kvs => .ok (kvs.map fun e => .tuple (e.1.map .int))
theorem e_iD (fe : VEnv → Rs RV) (env : VEnv) : iD fe env = (fe env).bind fun r => (rsO r.dt).bind fun kvs => .ok (kvs.map fun e => .tuple (e.1.map .int)) := rfl
section
variable {ca : Nat → Addr} {W : WX} {X : Cx} {e : Expr} {fa : VEnv → Rs RV}
theorem vj_dict {tg : Expr} (h : VE ca W X e fa) : VJ ca W X tg e (iD fa) := by
  obtain ⟨t, p, s⟩ := h
  refine ⟨_, pi_keysO p, fun B F env σ H R st q => ?_⟩
  show t σ H fun x H1 => ∃ d n xs, x = .ref d ∧ H1 d = some (DTO d (n, xs)) ∧ R (ItT d n xs) H1
  refine seqE (PostJ X.K ca W σ F H R) s st q (fun _ _ h => h) (fun h => h) fun r F1 H1 v p1 g1 q1 => ?_
  cases e1 : r.dt with
  | none => rw [e1] at p1; exact p1.elim
  | some kvs =>
    rw [e1] at p1
    simp only [rsO_some, Rs.bind_ok] at p1
    obtain ⟨d, n, xs, rfl, hd, kq⟩ := dt_ok q1 e1
    exact ⟨d, n, xs, rfl, hd, p1 _ F1 H1 _ g1 (ktl_keys kq) (jw_dto hd)⟩
end
/-! ### max(d.values()) -/
def tMaxO (td : TE) : TE := fun σ H Q => td σ H fun x H1 => ∃ d n xs is, x = .ref d ∧ H1 d = some (DTO d (n, xs)) ∧ Paired (fun (e : List Int × Addr × Value) (j : Int) => ∃ t, e.2.2 = .int j t) xs is ∧ is ≠ [] ∧ ∀ m, m ∈ is → (∀ j ∈ is, j ≤ m) → Q (.int m) H1
theorem paired_at {α β : Type} {R : α → β → Prop} {xs : List α} {ys : List β} (h : Paired R xs ys) : ∀ {i : Nat} {x : α}, xs[i]? = some x → ∃ y, ys[i]? = some y ∧ R x y := by
  induction h with
  | nil => intro i x e; simp at e
  | @cons a b as bs h1 _ ih =>
    intro i x e
    cases i with
    | zero =>
      obtain rfl : a = x := by simpa using e
      exact ⟨b, rfl, h1⟩
    | succ i => exact ih (by simpa using e)
theorem pe_maxO {X : Cx} {oe : Expr} {p pos apos mpos : Pos} {td : TE} (hc : X.calm = true) (hg : Gl X "max") (hm : X.mg "max" = none) (hd : PE X oe td) (hbase : attributeBase oe "values" X.env (eval oe X.env) = eval oe X.env := by rfl) (hline : (apos.endLine == mpos.line) = true := by rfl)
    (hst : starEach [Expr.Call (.Attribute oe "values" apos) [] [] mpos] X.env = [(false, eval (Expr.Call (.Attribute oe "values" apos) [] [] mpos) X.env)] := by rfl) :
    PE X (.Call (.Name "max" p) [.Call (.Attribute oe "values" apos) [] [] mpos] [] pos) (tMaxO td) := by
  refine ⟨fun pins s σ H Q I h => wpAny_Call_Name_kw (ld_blt I hg hm (u := .builtin "max") (by first | rfl | decide +kernel) ?_ (by first | decide +kernel | decide) (by first | decide +kernel | decide))⟩
  rw [hst]
  refine PySem.callWith_builtin1 (wpAny_Call_method0_late hbase hline (thn (hd.run pins s σ H _ I h) fun v s1 ⟨x, H1, I1, r1, d, n, xs, is, ex, ha, hv, hne, q⟩ => ?_))
  subst ex
  obtain rfl : v = Value.ref d := r1
  obtain ⟨g0, ob, es, g1, g2, g3, g4, g5⟩ := dto_raw I1 ha
  have hl : xs.length = is.length := hv.length
  refine ⟨"dict", "dict.values", PySem.F.plainAttrs_dict, PySem.F.slot_dict_values, PySem.F.type_dict_values, ⟨ob, g1, g2.1⟩, fun b e => ?_, Calls.callWith_builtin rfl (PySem.evalArgs_none ?_)⟩
  · cases e
    exact ⟨ob, g1, g2.2.1⟩
  refine call_meetsIn PySem.F.slot_dict_values ⟨ob, g1, g2.1⟩ PySem.F.entry_dict_values (PySem.F.args_dict_values_1 _) (PySem.meets_dict_values_raw d g0) ⟨⟨es, n, ob, g1, g2, g3⟩, ?_⟩
  have hlt : d < s1.heap.objs.size := Heap.lt_size g1
  have kp : ∀ b u, s1.heap.get? b = some u → (s1.heap.push { cls := .type "dict_values", data := .fields #[.ref d] }).get? b = some u := fun b u e => Heap.get?_push_of_some _ e
  have sz : (s1.heap.push { cls := .type "dict_values", data := .fields #[.ref d] }).objs.size = s1.heap.objs.size + 1 := Heap.size_push _ _
  have val : ∀ (i : Nat) (e : DictEntry), es[i]? = some e → ∃ t, e.val = .int (is.getD i 0) t := fun i e he => by
    have hi : i < es.size := (Array.getElem?_eq_some_iff.mp he).1
    have hix : i < xs.length := by omega
    obtain ⟨en, z1, _, z2⟩ := g5 i xs[i] (List.getElem?_eq_getElem hix)
    obtain rfl : en = e := Option.some.inj (z1.symm.trans he)
    obtain ⟨j, z3, t, z4⟩ := paired_at hv (List.getElem?_eq_getElem hix)
    exact ⟨t, by rw [z2, z4, List.getD_eq_getElem?_getD, z3]; rfl⟩
  have npos : 0 < es.size := by
    have := List.length_pos_iff.mpr hne
    omega
  refine call_max_walk (DSub.iter_vals (v := s1.heap.objs.size) (a := d) (Heap.get?_push_size _ rfl) (kp _ _ g1) g3 ?_)
  refine ⟨_, _, _, _, _, _, _, rfl, DSub.walksVal (A := X.A.in1) (a := d) (ob := ob) (P := fun i v => ∃ t, v = .int (is.getD i 0) t) (I.ok.hd hc) (I := (s1.heap.push { cls := .type "dict_values", data := .fields #[.ref d] }).objs.size) (by rw [sz]; exact Nat.ne_of_lt (Nat.lt_succ_of_lt hlt)) g3 val,
    ⟨Heap.get?_push_size _ rfl, Heap.get?_push_of_some _ (kp _ _ g1)⟩, fun b hb => ?_, npos, CmpOf.ints_gt (fun i => is.getD i 0) (fun i v z => z), fun v h' tk hP hk => ?_⟩
  · show b < ((s1.heap.push _).push _).objs.size
    rw [Heap.size_push, sz]
    rw [sz] at hb
    rcases List.mem_cons.mp hb with e | e
    · rw [e]
      exact Nat.lt_succ_self _
    · rw [List.mem_singleton.mp e]
      exact Nat.lt_succ_of_lt (Nat.lt_succ_of_lt hlt)
  · obtain ⟨t, rfl⟩ := hP
    obtain ⟨b1, b2⟩ := argBest_gt (fun i => is.getD i 0) (es.size - 1)
    refine ⟨.int _, H1, I1.kept (t' := tk) fun b u e => hk b u (fun z => ?_) (Heap.get?_push_of_some _ (kp b u e)), ⟨t, rfl⟩, q _ ?_ fun j hj => ?_⟩
    · have z1 := List.mem_singleton.mp z
      have z2 := Heap.lt_size e
      rw [sz] at z1
      rw [z1] at z2
      exact absurd z2 (Nat.not_lt.mpr (Nat.le_succ _))
    · have m1 : argBest (fun i j => decide (is.getD i 0 > is.getD j 0)) (es.size - 1) ≤ es.size - 1 := b1
      have hb : argBest (fun i j => decide (is.getD i 0 > is.getD j 0)) (es.size - 1) < is.length := by omega
      rw [List.getD_eq_getElem?_getD, List.getElem?_eq_getElem hb]
      exact List.getElem_mem hb
    · obtain ⟨i, hi, rfl⟩ := List.getElem_of_mem hj
      have e2 : is.getD i 0 = is[i] := by rw [List.getD_eq_getElem?_getD, List.getElem?_eq_getElem hi]; rfl
      rw [← e2]
      exact b2 i (by omega)
/-- the ints that a dict holds -/
def valsI : List (List Int × PyData) → Option (List Int)
  | [] => some []
  | (_, .int j) :: r => (valsI r).map (j :: ·)
  | _ => none
theorem vals_ints {K : PySem.W.Frag} {F : Hp} : ∀ {xs : List (List Int × Addr × Value)} {kvs : List (List Int × PyData)} {is : List Int}, KTl K F xs kvs → valsI kvs = some is → Paired (fun (e : List Int × Addr × Value) (j : Int) => ∃ t, e.2.2 = .int j t) xs is
  | _, [], is, h, e => by cases h; cases e; exact .nil
  | _, (k, v) :: r, is, h, e => by
    cases h with
    | cons h1 h2 =>
      cases v with
      | int j =>
        unfold valsI at e
        obtain ⟨is', e1, e2⟩ := Option.map_eq_some_iff.mp e
        subst e2
        obtain ⟨w, r1, r2⟩ := h1.2.2
        cases r2
        exact .cons r1 (vals_ints h2 e1)
      | _ => cases e
def cMaxV (fa : VEnv → Rs RV) : VEnv → Rs RV := fun env => (fa env).bind fun r => (rsO r.dt).bind fun kvs => (rsO (valsI kvs)).bind fun is => (rsO (maxL is)).bind okI
theorem e_maxV (fa : VEnv → Rs RV) (env : VEnv) : cMaxV fa env = (fa env).bind fun r => (rsO r.dt).bind fun kvs => (rsO (valsI kvs)).bind fun is => (rsO (maxL is)).bind okI := rfl
theorem maxL_of {is : List Int} {m : Int} (h : m ∈ is) (k : ∀ j ∈ is, j ≤ m) : maxL is = some m := by
  cases is with
  | nil => cases h
  | cons x xs =>
    have key : ∀ (xs : List Int) (a : Int), (∀ j ∈ xs, j ≤ m) → a ≤ m → (a = m ∨ m ∈ xs) → xs.foldl (fun a b => if b > a then b else a) a = m := by
      intro xs
      induction xs with
      | nil =>
        intro a _ _ h
        rcases h with h | h
        · exact h
        · cases h
      | cons y ys ih =>
        intro a hx ha h
        rw [List.foldl_cons]
        have hy := hx y List.mem_cons_self
        refine ih _ (fun j hj => hx j (List.mem_cons_of_mem _ hj)) (by split <;> omega) ?_
        by_cases c : a = m
        · left
          split <;> omega
        · rcases h with h | h
          · exact absurd h c
          · rcases List.mem_cons.mp h with e | e
            · left
              split <;> omega
            · exact .inr e
    show some (xs.foldl _ x) = some m
    refine congrArg some (key xs x (fun j hj => k j (List.mem_cons_of_mem _ hj)) (k x List.mem_cons_self) ?_)
    rcases List.mem_cons.mp h with e | e
    · exact .inl e.symm
    · exact .inr e
theorem ve_maxV {ca : Nat → Addr} {W : WX} {X : Cx} {oe : Expr} {fa : VEnv → Rs RV} {p pos apos mpos : Pos} (hc : X.calm = true) (hg : Gl X "max") (hm : X.mg "max" = none) (h : VE ca W X oe fa) (hbase : attributeBase oe "values" X.env (eval oe X.env) = eval oe X.env := by rfl) (hline : (apos.endLine == mpos.line) = true := by rfl)
    (hst : starEach [Expr.Call (.Attribute oe "values" apos) [] [] mpos] X.env = [(false, eval (Expr.Call (.Attribute oe "values" apos) [] [] mpos) X.env)] := by rfl) :
    VE ca W X (.Call (.Name "max" p) [.Call (.Attribute oe "values" apos) [] [] mpos] [] pos) (cMaxV fa) := by
  obtain ⟨t, pe, s⟩ := h
  refine ⟨_, pe_maxO hc hg hm pe hbase hline hst, fun B F env σ H Q st q => ?_⟩
  show t σ H fun x H1 => ∃ d n xs is, x = .ref d ∧ H1 d = some (DTO d (n, xs)) ∧ Paired (fun (e : List Int × Addr × Value) (j : Int) => ∃ t, e.2.2 = .int j t) xs is ∧ is ≠ [] ∧ ∀ m, m ∈ is → (∀ j ∈ is, j ≤ m) → Q (.int m) H1
  refine seqE (PostE X.K ca W σ F H Q) s st q (fun _ _ h => h) (fun h => h) fun r F1 H1 v p1 g1 q1 => ?_
  cases e1 : r.dt with
  | none => rw [e1] at p1; exact p1.elim
  | some kvs =>
    rw [e1] at p1
    simp only [rsO_some, Rs.bind_ok] at p1
    cases e2 : valsI kvs with
    | none => rw [e2] at p1; exact p1.elim
    | some is =>
      rw [e2] at p1
      simp only [rsO_some, Rs.bind_ok] at p1
      obtain ⟨d, n, xs, rfl, hd, kq⟩ := dt_ok q1 e1
      refine ⟨d, n, xs, is, rfl, hd, vals_ints kq e2, fun z => ?_, fun m h1 h2 => ?_⟩
      · subst z
        exact p1.elim
      · rw [maxL_of h1 h2] at p1
        exact p1 F1 H1 _ g1 (.int _)
end VL
namespace My
open PySem PySem.Spec PyProof.Rows L2 VL TL
def B__law_cell : VEnv → Out :=
  (sSeq (sIf (cB (c2 gLt (cV 1) (cA gLen (aC (cV 0) aN)))) (sRet (c2 gIx (cV 0) (cV 1))) sNil)
    (sRet (cC (.int 0))))
def F__law_cell : List RV → Rs RV := fnD 2 B__law_cell
def L0__law_draw : VEnv → Out :=
  (sSeq (sApp 4 (c2 gMod (cV 3) (cV 5)))
    (sSet 3 (c2 gDiv (cV 3) (cV 5))))
def L1__law_draw : VEnv → Out :=
  (sSeq (sSet 6 (c2 gMod (c2 gAdd (c2 gAdd (c2 gMul (cV 6) (cC (.int 48271))) (cC (.int 11))) (cV 7)) (cC (.int 2147483647))))
    (sSeq (sSet 6 (c2 gMod (c2 gAdd (c2 gMul (cV 6) (cC (.int 69621))) (cC (.int 3))) (cC (.int 2147483647))))
    (sApp 4 (c2 gMod (c2 gDiv (cV 6) (cC (.int 7))) (c2 gIx (cV 2) (cV 7))))))
def B__law_draw : VEnv → Out :=
  (sSeq (sSet 3 (cA (fun rs => if rs.length = 2 then F__law_cell (rs.map RV.arg) else .no) (aC (cV 0) (aC (cV 1) aN))))
    (sSeq (sIf (cB (c2 gLt (cV 3) (cC (.int 0)))) (sSet 3 (c1 gNeg (cV 3))) sNil)
    (sSeq (sSet 4 (cA gList aN))
    (sSeq (sIf (cB (c2 gGe (cV 3) (c2 gPow (cC (.int 10)) (cC (.int 18))))) (sSeq (sSet 3 (c2 gSub (cV 3) (c2 gPow (cC (.int 10)) (cC (.int 18)))))
    (sSeq (sFor (.nm 5) (iL (cV 2)) L0__law_draw)
    (sRetV 4))) sNil)
    (sSeq (sSet 6 (c2 gMod (c2 gAdd (c2 gAdd (cV 3) (cC (.int 1))) (c2 gMul (cC (.int 31)) (cV 1))) (cC (.int 2147483647))))
    (sSeq (sFor (.nm 7) (iR gR1 (aC (cA gLen (aC (cV 2) aN)) aN)) L1__law_draw)
    (sRetV 4)))))))
def F__law_draw : List RV → Rs RV := fnD 8 B__law_draw
def L0__law_task : VEnv → Out :=
  (sIf (bAnd (cB (c2 gEq (c2 gIx (cV 6) (c2 gAdd (cC (.int 1)) (cV 8))) (cC (.int 1)))) (bOr (cB (c2 gGt (c2 gIx (cV 6) (cC (.int 0))) (cC (.int 1)))) (cB (c2 gGe (c2 gAdd (cV 8) (cC (.int 2))) (cV 5))))) (sApp 7 (cV 8)) sNil)
def L1__law_task : VEnv → Out :=
  (sSeq (sSet 6 (cA (fun rs => if rs.length = 3 then F__law_draw (rs.map RV.arg) else .no) (aC (cV 0) (aC (c2 gAdd (c2 gAdd (cV 1) (cC (.int 1))) (cV 5)) (aC (cA gList (aC (cC (.int 4)) (aC (cC (.int 2)) (aC (cC (.int 2)) (aC (cC (.int 2)) (aC (cC (.int 2)) (aC (cC (.int 2)) (aC (cC (.int 2)) (aC (cC (.int 2)) (aC (cC (.int 2)) aN)))))))))) aN)))))
    (sSeq (sSet 7 (cA gList aN))
    (sSeq (sFor (.nm 8) (iR gR1 (aC (cV 5) aN)) L0__law_task)
    (sApp 4 (cA gTupleC (aC (cV 7) aN))))))
def L2__law_task : VEnv → Out :=
  (sIf (bAnd (cB (c2 gGt (c2 gIx (cV 3) (cC (.int 2))) (cC (.int 0)))) (cB (c2 gEq (c2 gMod (c2 gDiv (c2 gIx (cV 3) (cC (.int 1))) (c2 gIx (cA gList (aC (cC (.int 1)) (aC (cC (.int 2)) (aC (cC (.int 4)) (aC (cC (.int 8)) (aC (cC (.int 16)) (aC (cC (.int 32)) (aC (cC (.int 64)) (aC (cC (.int 128)) aN))))))))) (cV 5))) (cC (.int 2))) (cC (.int 1))))) (sApp 9 (cV 5)) sNil)
def B__law_task : VEnv → Out :=
  (sSeq (sSet 3 (cA (fun rs => if rs.length = 3 then F__law_draw (rs.map RV.arg) else .no) (aC (cV 0) (aC (cV 1) (aC (cA gList (aC (cV 2) (aC (cC (.int 256)) (aC (cC (.int 3)) aN)))) aN)))))
    (sSeq (sSet 4 (cA gList aN))
    (sSeq (sFor (.nm 5) (iR gR1 (aC (c2 gAdd (cC (.int 1)) (c2 gIx (cV 3) (cC (.int 0)))) aN)) L1__law_task)
    (sSeq (sSet 9 (cA gList aN))
    (sSeq (sFor (.nm 5) (iR gR1 (aC (cA gLen (aC (cV 4) aN)) aN)) L2__law_task)
    (sSeq (sIf (cB (c2 gEq (cA gLen (aC (cV 9) aN)) (cC (.int 0)))) (sSet 9 (cA gList (aC (c2 gSub (cA gLen (aC (cV 4) aN)) (cC (.int 1))) aN))) sNil)
    (sRet (cA gTupl (aC (cA gTupleC (aC (cV 4) aN)) (aC (cA gTupleC (aC (cV 9) aN)) aN))))))))))
def F__law_task : List RV → Rs RV := fnD 10 B__law_task
def B__law_can : VEnv → Out :=
  (sRet (cA gAll (aC (cLc (iT (c2 gIx (cV 0) (cV 2))) [3] (.nm 3) bYes (c2 gIn (cV 3) (cV 1))) aN)))
def F__law_can : List RV → Rs RV := fnD 4 B__law_can
def B__law_moved : VEnv → Out :=
  (sSeq (sIf (cB (c2 gIn (cV 1) (cV 0))) (sRet (cA gTupleC (aC (cLc (iT (cV 0)) [2] (.nm 2) (cB (c2 gNe (cV 2) (cV 1))) (cV 2)) aN))) sNil)
    (sRet (cA gTupleC (aC (cA gSorted (aC (c2 gAdd (cA gListC (aC (cV 0) aN)) (cA gList (aC (cV 1) aN))) aN)) aN))))
def F__law_moved : List RV → Rs RV := fnD 3 B__law_moved
def L0__law_ways : VEnv → Out :=
  (sIf (cB (cA (fun rs => if rs.length = 3 then F__law_can (rs.map RV.arg) else .no) (aC (cV 0) (aC (cV 6) (aC (cV 7) aN))))) (sSeq (sSet 8 (cA (fun rs => if rs.length = 2 then F__law_moved (rs.map RV.arg) else .no) (aC (cV 6) (aC (cV 7) aN))))
    (sIf (bAnd (cB (c2 gLe (cA gLen (aC (cV 8) aN)) (cV 1))) (cB (c2 gNotInD (cV 8) (cV 3)))) (sSeq (sStoreA 3 (cV 8) (c2 gAdd (c2 gIxD (cV 3) (cV 6)) (cC (.int 1))))
    (sFz 8 (sApp 4 (cV 8)))) sNil)) sNil)
def L1__law_ways : VEnv → Out :=
  (sSeq (sSet 6 (c2 gIx (cV 4) (cV 5)))
    (sSeq (sSet 5 (c2 gAdd (cV 5) (cC (.int 1))))
    (sFor (.nm 7) (iR gR1 (aC (cA gLen (aC (cV 0) aN)) aN)) L0__law_ways)))
def B__law_ways : VEnv → Out :=
  (sSeq (sSet 3 cDT)
    (sSeq (sSet 4 (cA gList aN))
    (sSeq (sIf (cB (c2 gLe (cA gLen (aC (cV 2) aN)) (cV 1))) (sSeq (sStoreA 3 (cV 2) (cC (.int 0)))
    (sApp 4 (cV 2))) sNil)
    (sSeq (sSet 5 (cC (.int 0)))
    (sSeq (sWhile 100000 (cB (c2 gLt (cV 5) (cA gLen (aC (cV 4) aN)))) L1__law_ways)
    (sRetV 3))))))
def F__law_ways : List RV → Rs RV := fnD 9 B__law_ways
def B__law_paper : VEnv → Out :=
  (sSeq (sFz 3 (sSet 4 (cA (fun rs => if rs.length = 3 then F__law_ways (rs.map RV.arg) else .no) (aC (c2 gIx (cV 2) (cC (.int 0))) (aC (cV 3) (aC (cA gTupl aN) aN))))))
    (sSeq (sSet 5 (cA (fun rs => if rs.length = 3 then F__law_draw (rs.map RV.arg) else .no) (aC (cV 0) (aC (cV 1) (aC (cA gList (aC (cC (.int 9)) (aC (cC (.int 40)) (aC (cC (.int 40)) (aC (cC (.int 64)) (aC (cC (.int 9)) aN)))))) aN)))))
    (sSeq (sSet 6 (cC .none))
    (sSeq (sSet 7 (c2 gAdd (cC (.int 1)) (cMaxV (cV 4))))
    (sSeq (sIf (cB (c2 gInD (c2 gIx (cV 2) (cC (.int 1))) (cV 4))) (sSeq (sSet 6 (c2 gIxD (cV 4) (c2 gIx (cV 2) (cC (.int 1)))))
    (sFz 6 (sSet 7 (cV 6)))) sNil)
    (sSeq (sSet 8 (cLc (iR gR1 (aC (cV 7) aN)) [9] (.nm 9) bYes (cA gSortedA (aC (cLc (iD (cV 4)) [13] (.nm 13) (cB (c2 gEq (c2 gIxD (cV 4) (cV 13)) (cV 9))) (cV 13)) aN))))
    (sSeq (sSet 9 (c2 gMod (c2 gIx (cV 5) (cC (.int 1))) (cA gLen (aC (cV 8) aN))))
    (sSeq (sSet 10 (cA gList (aC (cC (.int 1)) (aC (cC (.int 2)) (aC (cC (.int 4)) (aC (cC (.int 8)) (aC (cC (.int 16)) (aC (cC (.int 32)) aN))))))))
    (sSeq (sSet 11 (cA gTupleC (aC (cLc (iR gR1 (aC (cA gLen (aC (c2 gIx (cV 2) (cC (.int 0))) aN)) aN)) [12] (.nm 12) (cB (c2 gEq (c2 gMod (c2 gDiv (c2 gIx (cV 5) (cC (.int 3))) (c2 gIx (cV 10) (cV 12))) (cC (.int 2))) (cC (.int 1)))) (cV 12)) aN)))
    (sSeq (sIf (bAnd (cB (c2 gEq (c2 gIx (cV 5) (cC (.int 0))) (cC (.int 0)))) (cB (c2 gGt (cA gLen (aC (c2 gIx (cV 8) (cV 9)) aN)) (cC (.int 0))))) (sSeq (sSet 12 (c2 gMod (c2 gIx (cV 5) (cC (.int 2))) (cA gLen (aC (c2 gIx (cV 8) (cV 9)) aN))))
    (sStore 8 (cV 9) (c2 gAdd (cSl (c2 gIx (cV 8) (cV 9)) oN (oS (cV 12))) (cSl (c2 gIx (cV 8) (cV 9)) (oS (c2 gAdd (cV 12) (cC (.int 1)))) oN)))) (sIf (cB (c2 gEq (c2 gIx (cV 5) (cC (.int 0))) (cC (.int 1)))) (sStore 8 (cV 9) (c2 gAdd (c2 gIx (cV 8) (cV 9)) (cA gList (aC (cV 11) aN)))) (sIf (cB (c2 gEq (c2 gIx (cV 5) (cC (.int 0))) (cC (.int 2)))) (sSeq (sSet 8 (c2 gAdd (cSl (cV 8) oN (oS (cV 9))) (cSl (cV 8) (oS (c2 gAdd (cV 9) (cC (.int 1)))) oN)))
    (sIf (cB (c2 gEq (cA gLen (aC (cV 8) aN)) (cC (.int 0)))) (sSet 8 (cA gList (aC (cA gList (aC (cA gTupl aN) aN)) aN))) sNil)) (sIf (cB (c2 gEq (c2 gIx (cV 5) (cC (.int 0))) (cC (.int 3)))) (sSet 8 (c2 gAdd (cV 8) (cA gList (aC (cA gList (aC (cV 11) aN)) aN)))) (sIf (cB (c2 gEq (c2 gIx (cV 5) (cC (.int 0))) (cC (.int 4)))) (sSet 6 (c2 gIx (cA gList (aC (cC .none) (aC (c2 gAdd (cC (.int 1)) (c2 gIx (cV 5) (cC (.int 4)))) (aC (cA gLen (aC (cV 8) aN)) aN)))) (c2 gMod (c2 gIx (cV 5) (cC (.int 4))) (cC (.int 3))))) (sIf (cB (c2 gEq (c2 gIx (cV 5) (cC (.int 0))) (cC (.int 5)))) (sSet 3 (c2 gAdd (cC (.int 1)) (c2 gMod (c2 gAdd (cV 3) (c2 gIx (cV 5) (cC (.int 4)))) (cC (.int 8))))) (sIf (cB (c2 gEq (c2 gIx (cV 5) (cC (.int 0))) (cC (.int 6)))) (sSeq (sStore 8 (cV 9) (c1 gRev (c2 gIx (cV 8) (cV 9))))
    (sSeq (sSet 8 (c2 gAdd (cV 8) (cA gList (aC (cA gList aN) aN))))
    (sIf (cB (c2 gIsNot (cV 6) (cC .none))) (sSet 6 (c2 gAdd (cV 6) (cC (.int 1)))) sNil))) (sIf (bAnd (cB (c2 gEq (c2 gIx (cV 5) (cC (.int 0))) (cC (.int 7)))) (cB (c2 gGt (cA gLen (aC (cV 8) aN)) (cC (.int 1))))) (sStore 8 (cC (.int 0)) (c2 gAdd (c2 gIx (cV 8) (cC (.int 0))) (c2 gIx (cV 8) (cC (.int 1))))) sNil))))))))
    (sFz 6 (sFz 3 (sRet (cA gTupl (aC (cV 3) (aC (cV 6) (aC (cA gTupleC (aC (cLc (iAb (cV 8)) [14] (.nm 14) bYes (cA gTupleC (aC (cV 14) aN))) aN)) aN)))))))))))))))))
def F__law_paper : List RV → Rs RV := fnD 15 B__law_paper
def L0_is_possible : VEnv → Out :=
  (sIf (cB (c2 gNotIn (cV 3) (cV 1))) (sRet (cC (.bool false))) sNil)
def B_is_possible : VEnv → Out :=
  (sSeq (sFor (.nm 3) (iA (c2 gIx (c2 gIx (cV 0) (cC (.int 0))) (cV 2))) L0_is_possible)
    (sRet (cC (.bool true))))
def F_is_possible : List RV → Rs RV := fnD 4 B_is_possible
def B_moved : VEnv → Out :=
  (sSeq (sIf (cB (c2 gIn (cV 1) (cV 0))) (sRet (cA gTupleC (aC (cLc (iAb (cV 0)) [2] (.nm 2) (cB (c2 gNe (cV 2) (cV 1))) (cV 2)) aN))) sNil)
    (sRet (cA gTupleC (aC (cA gSorted (aC (c2 gAdd (cA gListC (aC (cV 0) aN)) (cA gList (aC (cV 1) aN))) aN)) aN))))
def F_moved : List RV → Rs RV := fnD 3 B_moved
def L0_transitions : VEnv → Out :=
  (sIf (cB (cA (fun rs => if rs.length = 3 then F_is_possible (rs.map RV.arg) else .no) (aC (cV 0) (aC (cV 1) (aC (cV 4) aN))))) (sSeq (sSet 5 (cA (fun rs => if rs.length = 2 then F_moved (rs.map RV.arg) else .no) (aC (cV 1) (aC (cV 4) aN))))
    (sIf (cB (c2 gLe (cA gLen (aC (cV 5) aN)) (cV 2))) (sFz 5 (sApp 3 (cA gTupl (aC (cV 4) (aC (cV 5) aN))))) sNil)) sNil)
def B_transitions : VEnv → Out :=
  (sSeq (sSet 3 (cA gList aN))
    (sSeq (sFor (.nm 4) (iR gR1 (aC (cA gLen (aC (c2 gIx (cV 0) (cC (.int 0))) aN)) aN)) L0_transitions)
    (sRetV 3)))
def F_transitions : List RV → Rs RV := fnD 6 B_transitions
def L0_shortest_plan : VEnv → Out :=
  (sIf (cB (c2 gNotInD (cV 9) (cV 4))) (sSeq (sStoreA 4 (cV 9) (c2 gAdd (c2 gIxD (cV 4) (cV 7)) (cA gList (aC (cV 8) aN))))
    (sApp 5 (cV 9))) sNil)
def L1_shortest_plan : VEnv → Out :=
  (sSeq (sSet 7 (c2 gIx (cV 5) (cV 6)))
    (sSeq (sAug 6 (RV.i2 fun i j => okI (i + j)) (cC (.int 1)))
    (sSeq (sIf (cB (c2 gEq (cV 7) (cV 3))) (sRet (c2 gIxD (cV 4) (cV 7))) sNil)
    (sFor (.tp [8, 9]) (iA (cA (fun rs => if rs.length = 3 then F_transitions (rs.map RV.arg) else .no) (aC (cV 0) (aC (cV 7) (aC (cV 1) aN))))) L0_shortest_plan))))
def B_shortest_plan : VEnv → Out :=
  (sSeq (sIf (cB (c2 gIs (cV 3) (cC .none))) (sSet 3 (c2 gIx (cV 0) (cC (.int 1)))) sNil)
    (sSeq (sIf (cB (c2 gGt (cA gLen (aC (cV 2) aN)) (cV 1))) (sRet (cC .none)) sNil)
    (sSeq (sSet 4 (cDisp1 (cV 2) (cA gList aN)))
    (sSeq (sSet 5 (cA gList (aC (cV 2) aN)))
    (sSeq (sSet 6 (cC (.int 0)))
    (sSeq (sWhile 100000 (cB (c2 gLt (cV 6) (cA gLen (aC (cV 5) aN)))) L1_shortest_plan)
    (sRet (cC .none))))))))
def F_shortest_plan : List RV → Rs RV := fnD 10 B_shortest_plan
def L0_levels_of : VEnv → Out :=
  (sIf (cB (c2 gNotIn (cV 7) (cV 2))) (sSeq (sApp 2 (cV 7))
    (sApp 4 (cV 7))) sNil)
def L1_levels_of : VEnv → Out :=
  (sFor (.tp [6, 7]) (iA (cA (fun rs => if rs.length = 3 then F_transitions (rs.map RV.arg) else .no) (aC (cV 0) (aC (cV 5) (aC (cV 1) aN))))) L0_levels_of)
def L2_levels_of : VEnv → Out :=
  (sSeq (sSet 4 (cA gList aN))
    (sSeq (sFor (.nm 5) (iA (c2 gIx (cV 3) (c1 gNeg (cC (.int 1))))) L1_levels_of)
    (sApp 3 (cA gTupleC (aC (cA gSortedA (aC (cV 4) aN)) aN)))))
def B_levels_of : VEnv → Out :=
  (sSeq (sSet 2 (cA gList (aC (cA gTupl aN) aN)))
    (sSeq (sSet 3 (cA gList (aC (cA gTupl (aC (cA gTupl aN) aN)) aN)))
    (sSeq (sWhile 100000 (cB (c2 gGt (cA gLen (aC (c2 gIx (cV 3) (c1 gNeg (cC (.int 1)))) aN)) (cC (.int 0)))) L2_levels_of)
    (sRet (cSl (cV 3) oN (oS (c1 gNeg (cC (.int 1)))))))))
def F_levels_of : List RV → Rs RV := fnD 8 B_levels_of
def B_certificate : VEnv → Out :=
  (sSeq (sSet 2 (cA (fun rs => if rs.length = 2 then F_shortest_plan (rs.map RV.arg ++ [.tuple [], .none].map RV.d) else .no) (aC (cV 0) (aC (cV 1) aN))))
    (sSeq (sSet 3 (cA (fun rs => if rs.length = 2 then F_levels_of (rs.map RV.arg) else .no) (aC (cV 0) (aC (cV 1) aN))))
    (sSeq (sIf (cB (c2 gIs (cV 2) (cC .none))) (sRet (cA gTupl (aC (cV 1) (aC (cC .none) (aC (cA gTupleC (aC (cV 3) aN)) aN))))) sNil)
    (sRet (cA gTupl (aC (cV 1) (aC (cA gLen (aC (cV 2) aN)) (aC (cA gTupleC (aC (cSl (cV 3) oN (oS (cA gLen (aC (cV 2) aN)))) aN)) aN))))))))
def F_certificate : List RV → Rs RV := fnD 4 B_certificate
def L0_stands_in : VEnv → Out :=
  (sIf (cB (c2 gIn (cV 1) (cV 2))) (sRet (cC (.bool true))) sNil)
def B_stands_in : VEnv → Out :=
  (sSeq (sFor (.nm 2) (iA (cV 0)) L0_stands_in)
    (sRet (cC (.bool false))))
def F_stands_in : List RV → Rs RV := fnD 3 B_stands_in
def L0_flaw : VEnv → Out :=
  (sIf (cB (c2 gIn (c2 gIx (cV 0) (cC (.int 1))) (c2 gIx (cV 4) (cV 5)))) (sRet (cA gTupl (aC (cC (.str "target")) (aC (cV 5) aN)))) sNil)
def L1_flaw : VEnv → Out :=
  (sIf (bNot (cB (cA (fun rs => if rs.length = 2 then F_stands_in (rs.map RV.arg) else .no) (aC (cSl (cV 4) oN (oS (c2 gAdd (cV 5) (cC (.int 2))))) (aC (cV 9) aN))))) (sRet (cA gTupl (aC (cC (.str "step")) (aC (cV 5) (aC (cV 7) (aC (cV 8) aN)))))) sNil)
def L2_flaw : VEnv → Out :=
  (sFor (.tp [8, 9]) (iA (cA (fun rs => if rs.length = 3 then F_transitions (rs.map RV.arg) else .no) (aC (cV 0) (aC (cV 7) (aC (cV 2) aN))))) L1_flaw)
def L3_flaw : VEnv → Out :=
  (sFor (.nm 7) (iA (c2 gIx (cV 4) (cV 5))) L2_flaw)
def B_flaw : VEnv → Out :=
  (sSeq (sUnp (.tp [2, 3, 4]) (cV 1))
    (sSeq (sIf (cB (c2 gNotIn (cA gTupl aN) (c2 gIx (cV 4) (cC (.int 0))))) (sRet (cA gTupl (aC (cC (.str "start")) aN))) sNil)
    (sSeq (sIf (bAnd (cB (c2 gIsNot (cV 3) (cC .none))) (cB (c2 gNe (cV 3) (cA gLen (aC (cV 4) aN))))) (sRet (cA gTupl (aC (cC (.str "count")) aN))) sNil)
    (sSeq (sFor (.nm 5) (iR gR1 (aC (cA gLen (aC (cV 4) aN)) aN)) L0_flaw)
    (sSeq (sSet 6 (vIf (cB (c2 gIs (cV 3) (cC .none))) (cA gLen (aC (cV 4) aN)) (c2 gSub (cA gLen (aC (cV 4) aN)) (cC (.int 1)))))
    (sSeq (sFor (.nm 5) (iR gR1 (aC (cV 6) aN)) L3_flaw)
    (sRet (cC .none))))))))
def F_flaw : List RV → Rs RV := fnD 10 B_flaw
def B_is_right : VEnv → Out :=
  (sRet (c2 gIs (cA (fun rs => if rs.length = 2 then F_flaw (rs.map RV.arg) else .no) (aC (cV 0) (aC (cV 1) aN))) (cC .none)))
def F_is_right : List RV → Rs RV := fnD 2 B_is_right
def L0_law : VEnv → Out :=
  (sSeq (sSet 2 (cA (fun rs => if rs.length = 3 then F__law_task (rs.map RV.arg) else .no) (aC (cV 0) (aC (c2 gMul (cC (.int 10)) (cV 1)) (aC (cC (.int 6)) aN)))))
    (sSeq (sSet 3 (c2 gAdd (cC (.int 1)) (c2 gIx (cA (fun rs => if rs.length = 3 then F__law_draw (rs.map RV.arg) else .no) (aC (cV 0) (aC (c2 gAdd (c2 gMul (cC (.int 10)) (cV 1)) (cC (.int 7))) (aC (cA gList (aC (cC (.int 7)) aN)) aN)))) (cC (.int 0)))))
    (sSeq (sFz 3 (sFz 2 (sSet 4 (cA (fun rs => if rs.length = 4 then F__law_paper (rs.map RV.arg) else .no) (aC (cV 0) (aC (c2 gAdd (c2 gMul (cC (.int 10)) (cV 1)) (cC (.int 8))) (aC (cV 2) (aC (cV 3) aN))))))))
    (sSeq (sSet 5 (cA (fun rs => if rs.length = 3 then F__law_ways (rs.map RV.arg) else .no) (aC (c2 gIx (cV 2) (cC (.int 0))) (aC (c2 gIx (cV 4) (cC (.int 0))) (aC (cA gTupl aN) aN)))))
    (sSeq (sFz 4 (sFz 2 (sIf (bAnd (cB (cA (fun rs => if rs.length = 2 then F_is_right (rs.map RV.arg) else .no) (aC (cV 2) (aC (cV 4) aN)))) (cB (c2 gInD (c2 gIx (cV 2) (cC (.int 1))) (cV 5)))) (sIf (bOr (cB (c2 gIs (c2 gIx (cV 4) (cC (.int 1))) (cC .none))) (cB (c2 gLt (c2 gIxD (cV 5) (c2 gIx (cV 2) (cC (.int 1)))) (c2 gIx (cV 4) (cC (.int 1)))))) (sRet (cC (.bool false))) sNil) sNil)))
    (sSeq (sFz 3 (sFz 2 (sSet 6 (cA (fun rs => if rs.length = 2 then F_certificate (rs.map RV.arg) else .no) (aC (cV 2) (aC (cV 3) aN))))))
    (sSeq (sFz 3 (sFz 2 (sSet 7 (cA (fun rs => if rs.length = 2 then F_shortest_plan (rs.map RV.arg ++ [.tuple [], .none].map RV.d) else .no) (aC (cV 2) (aC (cV 3) aN))))))
    (sSeq (sFz 6 (sFz 2 (sIf (bOr (bNot (cB (cA (fun rs => if rs.length = 2 then F_is_right (rs.map RV.arg) else .no) (aC (cV 2) (aC (cV 6) aN))))) (cB (c2 gNe (c2 gIx (cV 6) (cC (.int 0))) (cV 3)))) (sRet (cC (.bool false))) sNil)))
    (sIf (bOr (cB (c2 gNe (c2 gIs (cV 7) (cC .none)) (c2 gIs (c2 gIx (cV 6) (cC (.int 1))) (cC .none)))) (bAnd (cB (c2 gIsNot (cV 7) (cC .none))) (cB (c2 gNe (c2 gIx (cV 6) (cC (.int 1))) (cA gLen (aC (cV 7) aN)))))) (sRet (cC (.bool false))) sNil)))))))))
def B_law : VEnv → Out :=
  (sSeq (sFor (.nm 1) (iR gR1 (aC (cA gMin2 (aC (cC (.int 4)) (aC (c2 gAdd (cC (.int 1)) (c2 gDiv (cA gLen (aC (cV 0) aN)) (cC (.int 10)))) aN))) aN)) L0_law)
    (sRet (cC (.bool true))))
def F_law : List RV → Rs RV := fnD 8 B_law
/-! ### cells and draws -/
def cell (ns : List Int) (k : Nat) : Int := ns.getD k 0
theorem cell_ok (ns : List Int) (k : Nat) : F__law_cell [.sc ns, .d (.int k)] = .ok (.d (.int (cell ns k))) := by
  unfold F__law_cell fnD B__law_cell
  simp [e_V]
  by_cases h : k < ns.length
  · simp [h, atI_lt, cell]
  · simp [h, cell]
/-- what the digits of a draw satisfy -/
structure Drawn (sizes ds : List Int) : Prop where
  len : ds.length = sizes.length
  lo : ∀ i (h : i < ds.length), 0 ≤ ds[i]
  hi : ∀ i (h : i < ds.length) (h' : i < sizes.length), ds[i] < sizes[i]
theorem Drawn.snoc {sizes ds : List Int} {s d : Int} (h : Drawn sizes ds) (h0 : 0 ≤ d) (h1 : d < s) : Drawn (sizes ++ [s]) (ds ++ [d]) := by
  refine ⟨by simp [h.len], fun i hi => ?_, fun i hi hi' => ?_⟩
  · by_cases c : i < ds.length
    · rw [List.getElem_append_left c]; exact h.lo i c
    · rw [List.getElem_append_right (by omega)]; simpa using h0
  · by_cases c : i < ds.length
    · rw [List.getElem_append_left c, List.getElem_append_left (by rw [← h.len]; exact c)]; exact h.hi i c _
    · rw [List.getElem_append_right (by omega), List.getElem_append_right (by rw [← h.len]; omega)]; simpa using h1
def Sizes (sizes : List Int) : Prop := ∀ s ∈ sizes, 0 < s ∧ s < 1073741824
/-- the loop of the first way -/
theorem draw_far (sizes : List Int) (hs : Sizes sizes) (a b : RV) (k : PyData) : ∀ (xs pre ds : List Int) (c : Int) (j5 j6 j7 : Option RV), pre ++ xs = sizes → Drawn pre ds → sizes.length ≤ 1000 → 0 ≤ c →
    ∃ (ds' : List Int) (c' : Int) (j5' : Option RV), loopF (.nm 5) (sSeq (sApp 4 (c2 gMod (cV 3) (cV 5))) (sSet 3 (c2 gDiv (cV 3) (cV 5)))) (xs.map .int) [some a, some b, some (.d k), some (.d (.int c)), some (.ol (ds.map .int)), j5, j6, j7] = .nx [some a, some b, some (.d k), some (.d (.int c')), some (.ol (ds'.map .int)), j5', j6, j7] ∧ Drawn sizes ds'
  | [], pre, ds, c, j5, j6, j7, e, h, hl, h0 => ⟨ds, c, j5, rfl, by rw [← e, List.append_nil]; exact h⟩
  | x :: xs, pre, ds, c, j5, j6, j7, e, h, hl, h0 => by
    have hx0 : 0 < x ∧ x < 1073741824 := hs x (by rw [← e]; simp)
    have hx : 0 < x ∧ x.natAbs < 1073741824 := by omega
    have hlen : ds.length ≤ 1000000 := by
      have : pre.length ≤ sizes.length := by (rw [← e]; simp)
      rw [h.len]; omega
    obtain ⟨ds', c', j5', e1, d1⟩ := draw_far sizes hs a b k xs (pre ++ [x]) (ds ++ [c % x]) (c / x) (some (.d (.int x))) j6 j7 (by rw [← e]; simp) (h.snoc (Int.emod_nonneg c (by omega)) (Int.emod_lt_of_pos c hx.1)) hl (Int.ediv_nonneg h0 (by omega))
    refine ⟨ds', c', j5', ?_, d1⟩
    rw [List.map_cons, loopF_cons]
    simp [e_app, e_V, hx, hlen]
    simpa using e1
/-- the loop of the second way -/
theorem draw_near (sizes : List Int) (hs : Sizes sizes) (a b : RV) (j3 j5 : Option RV) : ∀ (n i : Nat) (ds : List Int) (m : Int) (j7 : Option RV), i + n = sizes.length → Drawn (sizes.take i) ds → sizes.length ≤ 1000 → 0 ≤ m → m < 2147483647 →
    ∃ (ds' : List Int) (m' : Int) (j7' : Option RV), loopF (.nm 7) (sSeq (sSet 6 (c2 gMod (c2 gAdd (c2 gAdd (c2 gMul (cV 6) (cC (.int 48271))) (cC (.int 11))) (cV 7)) (cC (.int 2147483647))))
    (sSeq (sSet 6 (c2 gMod (c2 gAdd (c2 gMul (cV 6) (cC (.int 69621))) (cC (.int 3))) (cC (.int 2147483647))))
    (sApp 4 (c2 gMod (c2 gDiv (cV 6) (cC (.int 7))) (c2 gIx (cV 2) (cV 7)))))) ((List.range' i n).map fun k : Nat => .int (k : Int)) [some a, some b, some (.d (.list (sizes.map .int))), j3, some (.ol (ds.map .int)), j5, some (.d (.int m)), j7] = .nx [some a, some b, some (.d (.list (sizes.map .int))), j3, some (.ol (ds'.map .int)), j5, some (.d (.int m')), j7'] ∧ Drawn sizes ds'
  | 0, i, ds, m, j7, e, h, hl, h0, h1 => ⟨ds, m, j7, rfl, by rw [Nat.add_zero] at e; rw [e, List.take_length] at h; exact h⟩
  | n + 1, i, ds, m, j7, e, h, hl, h0, h1 => by
    have hi : i < sizes.length := by omega
    have hx : 0 < sizes[i] ∧ sizes[i] < 1073741824 := hs _ (List.getElem_mem hi)
    have hlen : ds.length ≤ 1000000 := by rw [h.len, List.length_take]; omega
    have q1 : 0 ≤ ((m * 48271 + 11 + (i : Int)) % 2147483647 * 69621 + 3) % 2147483647 := Int.emod_nonneg _ (by decide)
    have q2 : ((m * 48271 + 11 + (i : Int)) % 2147483647 * 69621 + 3) % 2147483647 < 2147483647 := Int.emod_lt_of_pos _ (by decide)
    have q3 : 0 ≤ (m * 48271 + 11 + (i : Int)) % 2147483647 := Int.emod_nonneg _ (by decide)
    have q4 : (m * 48271 + 11 + (i : Int)) % 2147483647 < 2147483647 := Int.emod_lt_of_pos _ (by decide)
    have et : sizes.take (i + 1) = sizes.take i ++ [sizes[i]] := by rw [List.take_add_one, List.getElem?_eq_getElem hi]; rfl
    obtain ⟨ds', m', j7', e1, d1⟩ := draw_near sizes hs a b j3 j5 n (i + 1) (ds ++ [((m * 48271 + 11 + (i : Int)) % 2147483647 * 69621 + 3) % 2147483647 / 7 % sizes[i]]) (((m * 48271 + 11 + (i : Int)) % 2147483647 * 69621 + 3) % 2147483647) (some (.d (.int i))) (by omega)
      (by rw [et]; exact h.snoc (Int.emod_nonneg _ (by omega)) (Int.emod_lt_of_pos _ hx.1)) hl q1 q2
    refine ⟨ds', m', j7', ?_, d1⟩
    rw [List.range'_succ, List.map_cons, loopF_cons]
    have b1 : m.natAbs < 18446744073709551616 := by omega
    have b2 : ((m * 48271 + 11 + (i : Int)) % 2147483647).natAbs < 18446744073709551616 := by omega
    have ea : atI (sizes.map PyData.int) (i : Int) = some (.int sizes[i]) := by rw [atI_lt (by omega) (by simpa using hi)]; simp [hi]
    simp [e_app, e_V, hlen, ea, hx, b1, b2]
    simpa using e1
/-- what follows the cell -/
def drawTail : VEnv → Out := (sSeq (sSet 4 (cA gList aN))
    (sSeq (sIf (cB (c2 gGe (cV 3) (c2 gPow (cC (.int 10)) (cC (.int 18))))) (sSeq (sSet 3 (c2 gSub (cV 3) (c2 gPow (cC (.int 10)) (cC (.int 18)))))
    (sSeq (sFor (.nm 5) (iL (cV 2)) (sSeq (sApp 4 (c2 gMod (cV 3) (cV 5)))
    (sSet 3 (c2 gDiv (cV 3) (cV 5)))))
    (sRetV 4))) sNil)
    (sSeq (sSet 6 (c2 gMod (c2 gAdd (c2 gAdd (cV 3) (cC (.int 1))) (c2 gMul (cC (.int 31)) (cV 1))) (cC (.int 2147483647))))
    (sSeq (sFor (.nm 7) (iR gR1 (aC (cA gLen (aC (cV 2) aN)) aN)) (sSeq (sSet 6 (c2 gMod (c2 gAdd (c2 gAdd (c2 gMul (cV 6) (cC (.int 48271))) (cC (.int 11))) (cV 7)) (cC (.int 2147483647))))
    (sSeq (sSet 6 (c2 gMod (c2 gAdd (c2 gMul (cV 6) (cC (.int 69621))) (cC (.int 3))) (cC (.int 2147483647))))
    (sApp 4 (c2 gMod (c2 gDiv (cV 6) (cC (.int 7))) (c2 gIx (cV 2) (cV 7)))))))
    (sRetV 4)))))
theorem draw_far' (ns : List Int) (k : Nat) (sizes : List Int) (hs : Sizes sizes) (hl : sizes.length ≤ 1000) (c : Int) (hf : 1000000000000000000 ≤ c) :
    ∃ ds : List Int, drawTail [some (.sc ns), some (.d (.int k)), some (.d (.list (sizes.map .int))), some (.d (.int c)), none, none, none, none] = .rt (.ol (ds.map .int)) ∧ Drawn sizes ds := by
  obtain ⟨ds', c', j5', e1, d1⟩ := draw_far sizes hs (.sc ns) (.d (.int k)) (.list (sizes.map .int)) sizes [] [] (c - 1000000000000000000) none none none (by simp) ⟨rfl, fun i h => by simp at h, fun i h => by simp at h⟩ hl (by omega)
  refine ⟨ds', ?_, d1⟩
  simp at e1
  unfold drawTail
  simp [e_V, hf, e1, e_retV]
theorem mix_ok (ns : List Int) (k : Nat) (sizes : List Int) (c : Int) : sSet 6 (c2 gMod (c2 gAdd (c2 gAdd (cV 3) (cC (.int 1))) (c2 gMul (cC (.int 31)) (cV 1))) (cC (.int 2147483647))) [some (.sc ns), some (.d (.int k)), some (.d (.list (sizes.map .int))), some (.d (.int c)), some (.ol []), none, none, none]
      = .nx [some (.sc ns), some (.d (.int k)), some (.d (.list (sizes.map .int))), some (.d (.int c)), some (.ol []), none, some (.d (.int ((c + 1 + 31 * (k : Int)) % 2147483647))), none] := by
  simp only [e_set, e_c2, e_V, List.getElem?_cons_zero, List.getElem?_cons_succ, Rs.bind_ok, e_bor1, e_cC, e_addI]
  rw [e_mul, if_pos (Or.inl (by decide))]
  simp only [Rs.bind_ok, e_addI]
  rw [e_mod, if_pos (by decide)]
  simp only [Rs.out_ok, e_putd]
  rw [if_pos (by show 6 < 8; decide)]
  rfl
theorem draw_near' (ns : List Int) (k : Nat) (sizes : List Int) (hs : Sizes sizes) (hl : sizes.length ≤ 1000) (c : Int) (hf : ¬ 1000000000000000000 ≤ c) :
    ∃ ds : List Int, drawTail [some (.sc ns), some (.d (.int k)), some (.d (.list (sizes.map .int))), some (.d (.int c)), none, none, none, none] = .rt (.ol (ds.map .int)) ∧ Drawn sizes ds := by
  obtain ⟨m, hm⟩ : ∃ m, m = (c + 1 + 31 * (k : Int)) % 2147483647 := ⟨_, rfl⟩
  have m0 : 0 ≤ m := by rw [hm]; exact Int.emod_nonneg _ (by decide)
  have m1 : m < 2147483647 := by rw [hm]; exact Int.emod_lt_of_pos _ (by decide)
  have hset := mix_ok ns k sizes c
  rw [← hm] at hset
  clear hm
  obtain ⟨ds', m', j7', e1, d1⟩ := draw_near sizes hs (.sc ns) (.d (.int k)) (some (.d (.int c))) none sizes.length 0 [] m none (by omega) ⟨rfl, fun i h => by simp at h, fun i h => by simp at h⟩ hl m0 m1
  refine ⟨ds', ?_, d1⟩
  rw [← List.range_eq_range', ← rngL_eq] at e1
  have hr : iR gR1 (aC (cA gLen (aC (cV 2) aN)) aN) [some (.sc ns), some (.d (.int k)), some (.d (.list (sizes.map .int))), some (.d (.int c)), some (.ol []), none, some (.d (.int m)), none] = .ok (rngL 0 sizes.length) := by
    have b1 : (sizes.map PyData.int).length ≤ 1000000 := by rw [List.length_map]; omega
    have := e_R1n b1
    rw [List.length_map] at this
    simp only [e_iR, e_aC, e_cA, e_aN, e_V, List.getElem?_cons_succ, List.getElem?_cons_zero, Rs.bind_ok, e_bor1, e_lenL, List.length_map]
    exact this
  have hc : cB (c2 gGe (cV 3) (c2 gPow (cC (.int 10)) (cC (.int 18)))) [some (.sc ns), some (.d (.int k)), some (.d (.list (sizes.map .int))), some (.d (.int c)), some (.ol []), none, none, none] = .ok false := by
    simp [e_V, hf]
  have h4 : sSet 4 (cA gList aN) [some (.sc ns), some (.d (.int k)), some (.d (.list (sizes.map .int))), some (.d (.int c)), none, none, none, none] = .nx [some (.sc ns), some (.d (.int k)), some (.d (.list (sizes.map .int))), some (.d (.int c)), some (.ol []), none, none, none] := by simp
  unfold drawTail
  rw [e_seq, h4, Out.then_nx, e_seq, e_if, hc]
  simp only [Rs.out_ok, Bool.false_eq_true, if_false, e_nil, Out.then_nx]
  rw [e_seq, hset, Out.then_nx, e_seq, e_for, hr]
  simp only [Rs.out_ok]
  rw [show ([] : List PyData) = ([] : List Int).map .int from rfl, e1]
  simp [e_retV]
theorem draw_ok (ns : List Int) (k : Nat) (sizes : List Int) (hs : Sizes sizes) (hl : sizes.length ≤ 1000) : ∃ ds : List Int, F__law_draw [.sc ns, .d (.int k), .d (.list (sizes.map .int))] = .ok (.ol (ds.map .int)) ∧ Drawn sizes ds := by
  have eb : B__law_draw = sSeq (sSet 3 (cA (fun rs => if rs.length = 2 then F__law_cell (rs.map RV.arg) else .no) (aC (cV 0) (aC (cV 1) aN))))
    (sSeq (sIf (cB (c2 gLt (cV 3) (cC (.int 0)))) (sSet 3 (c1 gNeg (cV 3))) sNil) drawTail) := rfl
  unfold F__law_draw fnD
  rw [eb]
  have hc := cell_ok ns k
  generalize cell ns k = c at hc
  have step : ∀ c : Int, ∃ ds : List Int, drawTail [some (.sc ns), some (.d (.int k)), some (.d (.list (sizes.map .int))), some (.d (.int c)), none, none, none, none] = .rt (.ol (ds.map .int)) ∧ Drawn sizes ds := fun c => by
    by_cases hf : (1000000000000000000 : Int) ≤ c
    · exact draw_far' ns k sizes hs hl c hf
    · exact draw_near' ns k sizes hs hl c hf
  simp [e_V, hc]
  by_cases hn : c < 0
  · obtain ⟨ds, e1, d1⟩ := step (-c)
    refine ⟨ds, ?_, d1⟩
    simp [hn, e_V, e1]
  · obtain ⟨ds, e1, d1⟩ := step c
    refine ⟨ds, ?_, d1⟩
    simp [hn, e_V, e1]
/-! ### drawn tasks -/
theorem loopF_ex {β : Type} {tg : Tg} {f : VEnv → Out} (R : Nat → VEnv → Prop) (emb : β → PyData) (xs : List β) (env : VEnv)
    (h : ∀ i env x, xs[i]? = some x → R i env → ∃ e1, tgE tg (emb x) env = some e1 ∧ ∃ env', (f e1 = .nx env' ∨ f e1 = .ct env') ∧ R (i + 1) env') (h0 : R 0 env) : ∃ env', loopF tg f (xs.map emb) env = .nx env' ∧ R xs.length env' := by
  obtain ⟨env', e, r⟩ := loopF_rel (α := Unit) (fun i _ env => R i env) emb (fun _ _ => ()) xs () env (fun i _ env x hx r => h i env x hx r) h0
  exact ⟨env', e, r⟩
def natI (k : Nat) : PyData := .int (k : Int)
theorem rng_nat (n : Nat) : rngL 0 n = (List.range n).map natI := rngL_eq n
/-- ascending, from 0 to below b -/
structure Asc (b : Int) (xs : List Int) : Prop where
  up : xs.Pairwise (· < ·)
  lo : ∀ x ∈ xs, 0 ≤ x
  hi : ∀ x ∈ xs, x < b
theorem Asc.nil (b : Int) : Asc b [] := ⟨.nil, by simp, by simp⟩
theorem Asc.snoc {b x : Int} {xs : List Int} (h : Asc x xs) (h0 : 0 ≤ x) (h1 : x < b) : Asc b (xs ++ [x]) :=
  ⟨List.pairwise_append.mpr ⟨h.up, List.pairwise_singleton _ _, fun y hy z hz => by rw [List.mem_singleton.mp hz]; exact h.hi y hy⟩,
    fun y hy => by rcases List.mem_append.mp hy with z | z; exact h.lo y z; rw [List.mem_singleton.mp z]; exact h0,
    fun y hy => by rcases List.mem_append.mp hy with z | z; (have := h.hi y z; omega); rw [List.mem_singleton.mp z]; exact h1⟩
theorem Asc.mono {b c : Int} {xs : List Int} (h : Asc b xs) (e : b ≤ c) : Asc c xs := ⟨h.up, h.lo, fun x hx => Int.lt_of_lt_of_le (h.hi x hx) e⟩
theorem Asc.len {b : Nat} : ∀ {xs : List Int}, Asc b xs → xs.length ≤ b := by
  induction b with
  | zero => intro xs h; cases xs with
    | nil => simp
    | cons x xs => have := h.lo x List.mem_cons_self; have := h.hi x List.mem_cons_self; omega
  | succ b ih =>
    intro xs h
    rcases List.eq_nil_or_concat xs with rfl | ⟨ys, y, rfl⟩
    · simp
    · rw [List.concat_eq_append] at h ⊢
      have hu := List.pairwise_append.mp h.up
      have : Asc (b : Int) ys := ⟨hu.1, fun z hz => h.lo z (List.mem_append_left _ hz), fun z hz => by
        have h1 := hu.2.2 z hz y (List.mem_singleton.mpr rfl)
        have h2 := h.hi y (List.mem_append_right _ (List.mem_singleton.mpr rfl))
        omega⟩
      have := ih this
      simp
      omega
/-- a task: each step uses ascending earlier steps; ascending targets, at least one -/
structure WF (most : Nat) (us : List (List Int)) (ts : List Int) : Prop where
  one : 1 ≤ us.length
  len : us.length ≤ most
  use : ∀ (k : Nat) (u : List Int), us[k]? = some u → Asc k u
  tgt : Asc us.length ts
  some : ts ≠ []
theorem drawn_at {sizes ds : List Int} (h : Drawn sizes ds) {i : Nat} {s : Int} (hi : sizes[i]? = some s) : ∃ d, ds[i]? = some d ∧ 0 ≤ d ∧ d < s := by
  obtain ⟨h1, h2⟩ := List.getElem?_eq_some_iff.mp hi
  have h3 : i < ds.length := by rw [h.len]; exact h1
  exact ⟨ds[i], List.getElem?_eq_getElem h3, h.lo i h3, by rw [← h2]; exact h.hi i h3 h1⟩
theorem atI_ints {ds : List Int} {i : Nat} {d : Int} (h : ds[i]? = some d) : atI (ds.map PyData.int) (i : Int) = some (.int d) := by
  rw [atI_lt (by omega) (by simpa using (List.getElem?_eq_some_iff.mp h).1)]
  simp [h]
theorem range_at {n i x : Nat} (h : (List.range n)[i]? = some x) : x = i ∧ i < n := by
  have hi : i < n := by simpa using (List.getElem?_eq_some_iff.mp h).1
  rw [List.getElem?_range hi] at h
  exact ⟨(Option.some.inj h).symm, hi⟩
/-! ### draws as naturals -/
theorem draw_nat (ns : List Int) (k : Nat) (sz : List Nat) (hs : ∀ s ∈ sz, 0 < s ∧ s < 1000000) (hl : sz.length ≤ 1000) : ∃ nd : List Nat, F__law_draw [.sc ns, .d (.int k), .d (.list (sz.map natI))] = .ok (.ol (nd.map natI)) ∧ nd.length = sz.length ∧ ∀ (i s : Nat), sz[i]? = some s → ∃ d, nd[i]? = some d ∧ d < s := by
  obtain ⟨ds, e, dr⟩ := draw_ok ns k (sz.map fun n : Nat => (n : Int)) (by
    intro s hs'
    obtain ⟨n, hn, rfl⟩ := List.mem_map.mp hs'
    have := hs n hn
    omega) (by simpa using hl)
  have el : ds.length = sz.length := by have := dr.len; simpa using this
  have eds : ds = (ds.map Int.toNat).map fun n : Nat => (n : Int) := by
    rw [List.map_map]
    refine (List.map_id _).symm.trans (List.map_congr_left fun x hx => ?_)
    obtain ⟨i, hi, rfl⟩ := List.getElem_of_mem hx
    have := dr.lo i hi
    show ds[i] = ((ds[i].toNat : Nat) : Int)
    omega
  have m1 : (sz.map fun n : Nat => (n : Int)).map PyData.int = sz.map natI := by rw [List.map_map]; rfl
  have m2 : ds.map PyData.int = (ds.map Int.toNat).map natI := by
    conv => lhs; rw [eds]
    rw [List.map_map]; rfl
  rw [m1, m2] at e
  refine ⟨ds.map Int.toNat, e, by simpa using el, fun i s hi => ?_⟩
  obtain ⟨d, q1, q2, q3⟩ := drawn_at dr (i := i) (s := (s : Int)) (by rw [List.getElem?_map, hi]; rfl)
  exact ⟨d.toNat, by rw [List.getElem?_map, q1]; rfl, by omega⟩
theorem atI_nats {ds : List Nat} {i d : Nat} (h : ds[i]? = some d) : atI (ds.map natI) (i : Int) = some (natI d) := by
  rw [atI_lt (by omega) (by simpa using (List.getElem?_eq_some_iff.mp h).1)]
  simp [h]
theorem e_modN (a n : Nat) (h : 0 < n) : gMod (.d (.int a)) (.d (.int n)) = .ok (.d (.int ((a % n : Nat) : Int))) := by
  rw [e_mod, if_pos (by omega)]
  rfl
/-! ### tasks as data -/
def encU (us : List (List Int)) : List PyData := us.map fun u => .tuple (u.map .int)
def encT (us : List (List Int)) (ts : List Int) : PyData := .tuple [.tuple (encU us), .tuple (ts.map .int)]
def usAt (us : List (List Int)) (o : Int) : List Int := us.getD o.toNat []
theorem encU_len (us : List (List Int)) : (encU us).length = us.length := by simp [encU]
theorem encU_at (us : List (List Int)) {o : Int} (h0 : 0 ≤ o) (h1 : o < us.length) : atI (encU us) o = some (.tuple ((usAt us o).map .int)) := by
  have h : o.toNat < us.length := by omega
  rw [atI_lt h0 (by simpa [encU] using h1)]
  simp [encU, h, usAt]
theorem tk_in (a b c d e : Option RV) (k : Nat) (ds : List Int) (hd : ds.length = 9) (hk : k ≤ 8) (j8 j9 : Option RV) :
    ∃ row j8', loopF (.nm 8) L0__law_task ((List.range k).map natI) [a, b, c, d, e, some (.d (natI k)), some (.ol (ds.map .int)), some (.ol []), j8, j9] = .nx [a, b, c, d, e, some (.d (natI k)), some (.ol (ds.map .int)), some (.ol (row.map .int)), j8', j9] ∧ Asc k row := by
  obtain ⟨env', e1, row, j8', rfl, ha, _⟩ := loopF_ex (tg := .nm 8) (f := L0__law_task) (fun i env => ∃ row j8', env = [a, b, c, d, e, some (.d (natI k)), some (.ol (ds.map .int)), some (.ol (row.map .int)), j8', j9] ∧ Asc i row ∧ row.length ≤ i) natI (List.range k)
    [a, b, c, d, e, some (.d (natI k)), some (.ol (ds.map .int)), some (.ol []), j8, j9] (by
      rintro i env x hx ⟨row, j, rfl, ha, hl⟩
      have hi : i < k := by simpa using (List.getElem?_eq_some_iff.mp hx).1
      have ex : x = i := by rw [List.getElem?_range hi] at hx; exact (Option.some.inj hx).symm
      subst ex
      obtain ⟨d1, hd1⟩ : ∃ d1, ds[1 + x]? = some d1 := ⟨_, List.getElem?_eq_getElem (by omega)⟩
      obtain ⟨d0, hd0⟩ : ∃ d0, ds[0]? = some d0 := ⟨_, List.getElem?_eq_getElem (by omega)⟩
      have q1 : atI (ds.map PyData.int) (1 + (x : Int)) = some (.int d1) := by have := atI_ints hd1; simpa using this
      have q0 : atI (ds.map PyData.int) 0 = some (.int d0) := by have := atI_ints hd0; simpa using this
      refine ⟨_, rfl, ?_⟩
      have hstay : ∃ env', (sNil [a, b, c, d, e, some (.d (natI k)), some (.ol (ds.map .int)), some (.ol (row.map .int)), some (.d (natI x)), j9] = .nx env' ∨ sNil [a, b, c, d, e, some (.d (natI k)), some (.ol (ds.map .int)), some (.ol (row.map .int)), some (.d (natI x)), j9] = .ct env') ∧ ∃ row j8', env' = [a, b, c, d, e, some (.d (natI k)), some (.ol (ds.map .int)), some (.ol (row.map .int)), j8', j9] ∧ Asc (x + 1 : Nat) row ∧ row.length ≤ x + 1 :=
        ⟨_, .inl rfl, row, _, rfl, ha.mono (by omega), by omega⟩
      have hput : ∃ env', (sApp 7 (cV 8) [a, b, c, d, e, some (.d (natI k)), some (.ol (ds.map .int)), some (.ol (row.map .int)), some (.d (natI x)), j9] = .nx env' ∨ sApp 7 (cV 8) [a, b, c, d, e, some (.d (natI k)), some (.ol (ds.map .int)), some (.ol (row.map .int)), some (.d (natI x)), j9] = .ct env') ∧ ∃ row j8', env' = [a, b, c, d, e, some (.d (natI k)), some (.ol (ds.map .int)), some (.ol (row.map .int)), j8', j9] ∧ Asc (x + 1 : Nat) row ∧ row.length ≤ x + 1 := by
        refine ⟨[a, b, c, d, e, some (.d (natI k)), some (.ol (ds.map .int)), some (.ol ((row ++ [(x : Int)]).map .int)), some (.d (natI x)), j9], .inl ?_, _, _, rfl, ha.snoc (by omega) (by omega), by simp; omega⟩
        have : row.length ≤ 1000000 := by omega
        simp [e_app, e_V, this, natI]
      obtain ⟨t, ht⟩ : ∃ t, (bAnd (cB (c2 gEq (c2 gIx (cV 6) (c2 gAdd (cC (.int 1)) (cV 8))) (cC (.int 1)))) (bOr (cB (c2 gGt (c2 gIx (cV 6) (cC (.int 0))) (cC (.int 1)))) (cB (c2 gGe (c2 gAdd (cV 8) (cC (.int 2))) (cV 5))))) [a, b, c, d, e, some (.d (natI k)), some (.ol (ds.map .int)), some (.ol (row.map .int)), some (.d (natI x)), j9] = .ok t := by
        simp only [e_bAnd, e_bOr, e_cB, e_c2, e_V, List.getElem?_cons_succ, List.getElem?_cons_zero, Rs.bind_ok, e_bor1, e_bor2, natI, e_cC, e_addI, e_ixB, q1, q0, rsO_some, e_eq, e_data1, sh_int, and_self, if_true, eqv_int, e_okB, e_asB, e_gt, e_ge]
        by_cases c1 : d1 = 1
        · rw [decide_eq_true c1, if_pos rfl]
          by_cases c2 : (1 : Int) < d0
          · rw [decide_eq_true c2, if_pos rfl]; exact ⟨_, rfl⟩
          · rw [decide_eq_false c2, if_neg Bool.false_ne_true]; exact ⟨_, rfl⟩
        · rw [decide_eq_false c1, if_neg Bool.false_ne_true]; exact ⟨_, rfl⟩
      show ∃ env', (L0__law_task [a, b, c, d, e, some (.d (natI k)), some (.ol (ds.map .int)), some (.ol (row.map .int)), some (.d (natI x)), j9] = .nx env' ∨ L0__law_task [a, b, c, d, e, some (.d (natI k)), some (.ol (ds.map .int)), some (.ol (row.map .int)), some (.d (natI x)), j9] = .ct env') ∧ _
      unfold L0__law_task
      rw [e_if, ht, Rs.out_ok]
      cases t with
      | true => rw [if_pos rfl]; exact hput
      | false => rw [if_neg Bool.false_ne_true]; exact hstay) ⟨[], j8, rfl, Asc.nil _, by simp⟩
  rw [List.length_range] at ha
  exact ⟨row, j8', e1, ha⟩
def sz9 : List Int := [4, 2, 2, 2, 2, 2, 2, 2, 2]
theorem tk_out (ns : List Int) (at0 most : Nat) (hd : List Int) (m : Nat) (hm : m ≤ 8) (h9 : Option RV) :
    ∃ us j5 j6 j7 j8, loopF (.nm 5) L1__law_task ((List.range m).map natI) [some (.sc ns), some (.d (natI at0)), some (.d (natI most)), some (.ol (hd.map .int)), some (.ol []), none, none, none, none, h9]
      = .nx [some (.sc ns), some (.d (natI at0)), some (.d (natI most)), some (.ol (hd.map .int)), some (.ol (encU us)), j5, j6, j7, j8, h9] ∧ us.length = m ∧ ∀ (k : Nat) (u : List Int), us[k]? = some u → Asc k u := by
  obtain ⟨env', e1, us, j5, j6, j7, j8, rfl, hl, hu⟩ := loopF_ex (tg := .nm 5) (f := L1__law_task) (fun i env => ∃ us j5 j6 j7 j8, env = [some (.sc ns), some (.d (natI at0)), some (.d (natI most)), some (.ol (hd.map .int)), some (.ol (encU us)), j5, j6, j7, j8, h9] ∧ us.length = i ∧ ∀ (k : Nat) (u : List Int), us[k]? = some u → Asc k u) natI (List.range m)
    [some (.sc ns), some (.d (natI at0)), some (.d (natI most)), some (.ol (hd.map .int)), some (.ol []), none, none, none, none, h9] (by
      rintro i env x hx ⟨us, j5, j6, j7, j8, rfl, hl, hu⟩
      have hi : i < m := by simpa using (List.getElem?_eq_some_iff.mp hx).1
      have ex : x = i := by rw [List.getElem?_range hi] at hx; exact (Option.some.inj hx).symm
      subst ex
      obtain ⟨ds, hds, dr⟩ := draw_ok ns (at0 + 1 + x) sz9 (by unfold Sizes sz9; decide) (by decide)
      have e9 : ds.length = 9 := dr.len
      obtain ⟨row, j8', e2, ha⟩ := tk_in (some (.sc ns)) (some (.d (natI at0))) (some (.d (natI most))) (some (.ol (hd.map .int))) (some (.ol (encU us))) x ds e9 (by omega) j8 h9
      have hz : us.length ≤ 1000000 := by omega
      refine ⟨_, rfl, [some (.sc ns), some (.d (natI at0)), some (.d (natI most)), some (.ol (hd.map .int)), some (.ol (encU (us ++ [row]))), some (.d (natI x)), some (.ol (ds.map .int)), some (.ol (row.map .int)), j8', h9], .inl ?_, us ++ [row], _, _, _, _, rfl, by simp [hl], fun k u hk => ?_⟩
      · have s6 : sSet 6 (cA (fun rs => if rs.length = 3 then F__law_draw (rs.map RV.arg) else .no) (aC (cV 0) (aC (c2 gAdd (c2 gAdd (cV 1) (cC (.int 1))) (cV 5)) (aC (cA gList (aC (cC (.int 4)) (aC (cC (.int 2)) (aC (cC (.int 2)) (aC (cC (.int 2)) (aC (cC (.int 2)) (aC (cC (.int 2)) (aC (cC (.int 2)) (aC (cC (.int 2)) (aC (cC (.int 2)) aN)))))))))) aN))))
            [some (.sc ns), some (.d (natI at0)), some (.d (natI most)), some (.ol (hd.map .int)), some (.ol (encU us)), some (.d (natI x)), j6, j7, j8, h9] = .nx [some (.sc ns), some (.d (natI at0)), some (.d (natI most)), some (.ol (hd.map .int)), some (.ol (encU us)), some (.d (natI x)), some (.ol (ds.map .int)), j7, j8, h9] := by
          have : F__law_draw [.sc ns, .d (.int ((at0 : Int) + 1 + (x : Int))), .d (.list [.int 4, .int 2, .int 2, .int 2, .int 2, .int 2, .int 2, .int 2, .int 2])] = .ok (.ol (ds.map .int)) := by
            have e : ((at0 + 1 + x : Nat) : Int) = (at0 : Int) + 1 + (x : Int) := by omega
            rw [← e]; exact hds
          simp [e_V, natI, this]
        have s7 : sSet 7 (cA gList aN) [some (.sc ns), some (.d (natI at0)), some (.d (natI most)), some (.ol (hd.map .int)), some (.ol (encU us)), some (.d (natI x)), some (.ol (ds.map .int)), j7, j8, h9] = .nx [some (.sc ns), some (.d (natI at0)), some (.d (natI most)), some (.ol (hd.map .int)), some (.ol (encU us)), some (.d (natI x)), some (.ol (ds.map .int)), some (.ol []), j8, h9] := by simp
        have hr : iR gR1 (aC (cV 5) aN) [some (.sc ns), some (.d (natI at0)), some (.d (natI most)), some (.ol (hd.map .int)), some (.ol (encU us)), some (.d (natI x)), some (.ol (ds.map .int)), some (.ol []), j8, h9] = .ok ((List.range x).map natI) := by
          have := e_R1n (n := x) (by omega)
          rw [rng_nat] at this
          simp [e_V, natI, this]
        show sSeq _ _ [some (.sc ns), some (.d (natI at0)), some (.d (natI most)), some (.ol (hd.map .int)), some (.ol (encU us)), some (.d (natI x)), j6, j7, j8, h9] = _
        rw [e_seq, s6, Out.then_nx, e_seq, s7, Out.then_nx, e_seq, e_for, hr, Rs.out_ok, e2, Out.then_nx]
        simp [e_app, e_V, hz, encU]
      · by_cases c : k < us.length
        · rw [List.getElem?_append_left c] at hk; exact hu k u hk
        · rw [List.getElem?_append_right (by omega)] at hk
          have : k - us.length = 0 := by
            have := (List.getElem?_eq_some_iff.mp hk).1
            simp at this; omega
          rw [this] at hk
          cases hk
          have : k = us.length := by omega
          rw [this, hl]
          exact ha) ⟨[], none, none, none, none, rfl, rfl, by simp⟩
  rw [List.length_range] at hl
  exact ⟨us, j5, j6, j7, j8, e1, hl, hu⟩
def pows : List Int := [1, 2, 4, 8, 16, 32, 64, 128]
theorem tk_tgt (a b c : Option RV) (h0 h1 h2 : Int) (us : List (List Int)) (hl : us.length ≤ 8) (j5 j6 j7 j8 : Option RV) :
    ∃ ts j5', loopF (.nm 5) L2__law_task ((List.range us.length).map natI) [a, b, c, some (.ol ([h0, h1, h2].map .int)), some (.ol (encU us)), j5, j6, j7, j8, some (.ol [])] = .nx [a, b, c, some (.ol ([h0, h1, h2].map .int)), some (.ol (encU us)), j5', j6, j7, j8, some (.ol (ts.map .int))] ∧ Asc us.length ts := by
  obtain ⟨env', e1, ts, j5', rfl, ha, _⟩ := loopF_ex (tg := .nm 5) (f := L2__law_task) (fun i env => ∃ ts j5', env = [a, b, c, some (.ol ([h0, h1, h2].map .int)), some (.ol (encU us)), j5', j6, j7, j8, some (.ol (ts.map .int))] ∧ Asc i ts ∧ ts.length ≤ i) natI (List.range us.length)
    [a, b, c, some (.ol ([h0, h1, h2].map .int)), some (.ol (encU us)), j5, j6, j7, j8, some (.ol [])] (by
      rintro i env x hx ⟨ts, j, rfl, ha, hz⟩
      have hi : i < us.length := by simpa using (List.getElem?_eq_some_iff.mp hx).1
      have ex : x = i := by rw [List.getElem?_range hi] at hx; exact (Option.some.inj hx).symm
      subst ex
      obtain ⟨p, hp⟩ : ∃ p, pows[x]? = some p := ⟨_, List.getElem?_eq_getElem (by show x < 8; omega)⟩
      have hpp : 0 < p ∧ p.natAbs < 1073741824 := by
        have : ∀ q ∈ pows, 0 < q ∧ q.natAbs < 1073741824 := by unfold pows; decide
        exact this p (List.mem_of_getElem? hp)
      have q1 : atI [PyData.int 1, .int 2, .int 4, .int 8, .int 16, .int 32, .int 64, .int 128] (x : Int) = some (.int p) := atI_ints hp
      have w1 : atI [PyData.int h0, .int h1, .int h2] 1 = some (.int h1) := rfl
      have w2 : atI [PyData.int h0, .int h1, .int h2] 2 = some (.int h2) := rfl
      refine ⟨_, rfl, ?_⟩
      obtain ⟨t, ht⟩ : ∃ t, (bAnd (cB (c2 gGt (c2 gIx (cV 3) (cC (.int 2))) (cC (.int 0)))) (cB (c2 gEq (c2 gMod (c2 gDiv (c2 gIx (cV 3) (cC (.int 1))) (c2 gIx (cA gList (aC (cC (.int 1)) (aC (cC (.int 2)) (aC (cC (.int 4)) (aC (cC (.int 8)) (aC (cC (.int 16)) (aC (cC (.int 32)) (aC (cC (.int 64)) (aC (cC (.int 128)) aN))))))))) (cV 5))) (cC (.int 2))) (cC (.int 1))))) [a, b, c, some (.ol ([h0, h1, h2].map .int)), some (.ol (encU us)), some (.d (natI x)), j6, j7, j8, some (.ol (ts.map .int))] = .ok t := by
        by_cases c2 : (0 : Int) < h2
        · simp [e_V, natI, w1, w2, q1, c2, hpp]
        · simp [e_V, natI, w1, w2, q1, c2, hpp]
      show ∃ env', (L2__law_task [a, b, c, some (.ol ([h0, h1, h2].map .int)), some (.ol (encU us)), some (.d (natI x)), j6, j7, j8, some (.ol (ts.map .int))] = .nx env' ∨ L2__law_task [a, b, c, some (.ol ([h0, h1, h2].map .int)), some (.ol (encU us)), some (.d (natI x)), j6, j7, j8, some (.ol (ts.map .int))] = .ct env') ∧ _
      unfold L2__law_task
      rw [e_if, ht, Rs.out_ok]
      cases t with
      | true =>
        rw [if_pos rfl]
        refine ⟨[a, b, c, some (.ol ([h0, h1, h2].map .int)), some (.ol (encU us)), some (.d (natI x)), j6, j7, j8, some (.ol ((ts ++ [(x : Int)]).map .int))], .inl ?_, _, _, rfl, ha.snoc (by omega) (by omega), by simp; omega⟩
        have : ts.length ≤ 1000000 := by omega
        simp [e_app, e_V, this, natI]
      | false =>
        rw [if_neg Bool.false_ne_true]
        exact ⟨_, .inl rfl, ts, _, rfl, ha.mono (by omega), by omega⟩) ⟨[], j5, rfl, Asc.nil _, by simp⟩
  rw [List.length_range] at ha
  exact ⟨ts, j5', e1, ha⟩
theorem task_ok (ns : List Int) (at0 most : Nat) (hm1 : 1 ≤ most) (hm : most ≤ 8) : ∃ us ts, F__law_task [.sc ns, .d (natI at0), .d (natI most)] = .ok (.d (encT us ts)) ∧ WF most us ts := by
  obtain ⟨hd, hds, dr⟩ := draw_ok ns at0 [(most : Int), 256, 3] (by intro s hs; simp at hs; omega) (by simp)
  obtain ⟨h0, h1, h2, rfl⟩ : ∃ h0 h1 h2, hd = [h0, h1, h2] := by
    have := dr.len
    match hd, this with
    | [a, b, c], _ => exact ⟨a, b, c, rfl⟩
  have b0 := dr.lo 0 (by simp)
  have b1 := dr.hi 0 (by simp) (by simp)
  simp at b0 b1
  obtain ⟨us, j5, j6, j7, j8, e1, hl, hu⟩ := tk_out ns at0 most [h0, h1, h2] (1 + h0).toNat (by omega) none
  obtain ⟨ts, j5', e2, ha⟩ := tk_tgt (some (.sc ns)) (some (.d (natI at0))) (some (.d (natI most))) h0 h1 h2 us (by omega) j5 j6 j7 j8
  have s3 : sSet 3 (cA (fun rs => if rs.length = 3 then F__law_draw (rs.map RV.arg) else .no) (aC (cV 0) (aC (cV 1) (aC (cA gList (aC (cV 2) (aC (cC (.int 256)) (aC (cC (.int 3)) aN)))) aN)))) [some (.sc ns), some (.d (natI at0)), some (.d (natI most)), none, none, none, none, none, none, none]
      = .nx [some (.sc ns), some (.d (natI at0)), some (.d (natI most)), some (.ol ([h0, h1, h2].map .int)), none, none, none, none, none, none] := by
    have : F__law_draw [.sc ns, .d (natI at0), .d (.list [natI most, .int 256, .int 3])] = .ok (.ol ([h0, h1, h2].map .int)) := hds
    simp [e_V, this]
  have s4 : sSet 4 (cA gList aN) [some (.sc ns), some (.d (natI at0)), some (.d (natI most)), some (.ol ([h0, h1, h2].map .int)), none, none, none, none, none, none] = .nx [some (.sc ns), some (.d (natI at0)), some (.d (natI most)), some (.ol ([h0, h1, h2].map .int)), some (.ol []), none, none, none, none, none] := by simp
  have r1 : iR gR1 (aC (c2 gAdd (cC (.int 1)) (c2 gIx (cV 3) (cC (.int 0)))) aN) [some (.sc ns), some (.d (natI at0)), some (.d (natI most)), some (.ol ([h0, h1, h2].map .int)), some (.ol []), none, none, none, none, none] = .ok ((List.range (1 + h0).toNat).map natI) := by
    have := e_R1 (a := 1 + h0) (by omega)
    rw [rng_nat] at this
    simp [e_V, this]
  have s9 : sSet 9 (cA gList aN) [some (.sc ns), some (.d (natI at0)), some (.d (natI most)), some (.ol ([h0, h1, h2].map .int)), some (.ol (encU us)), j5, j6, j7, j8, none] = .nx [some (.sc ns), some (.d (natI at0)), some (.d (natI most)), some (.ol ([h0, h1, h2].map .int)), some (.ol (encU us)), j5, j6, j7, j8, some (.ol [])] := by simp
  have r2 : iR gR1 (aC (cA gLen (aC (cV 4) aN)) aN) [some (.sc ns), some (.d (natI at0)), some (.d (natI most)), some (.ol ([h0, h1, h2].map .int)), some (.ol (encU us)), j5, j6, j7, j8, some (.ol [])] = .ok ((List.range us.length).map natI) := by
    have := e_R1n (n := us.length) (by omega)
    rw [rng_nat] at this
    simp [e_V, encU_len, this]
  refine ⟨us, if ts = [] then [(us.length : Int) - 1] else ts, ?_, ⟨by omega, by omega, hu, ?_, ?_⟩⟩
  · show (sSeq _ _ ([some (.sc ns), some (.d (natI at0)), some (.d (natI most))] ++ List.replicate 7 none)).fin = _
    show (sSeq _ _ [some (.sc ns), some (.d (natI at0)), some (.d (natI most)), none, none, none, none, none, none, none]).fin = _
    rw [e_seq, s3, Out.then_nx, e_seq, s4, Out.then_nx, e_seq, e_for, r1, Rs.out_ok, e1, Out.then_nx, e_seq, s9, Out.then_nx, e_seq, e_for, r2, Rs.out_ok, e2, Out.then_nx]
    cases ts with
    | nil => simp [e_V, encU_len, encT]
    | cons t ts =>
      have : ¬ ((ts.length : Int) + 1 = 0) := by omega
      simp [e_V, encU_len, encT, this]
  · split
    · exact ⟨List.pairwise_singleton _ _, by simp; omega, by simp; omega⟩
    · exact ha
  · split <;> simp [*]
/-! ### texts: a letter and a number -/
def numS (n : Nat) : Str := Str.ofString (toString (n : Int))
def lx (c : Str) (n : Nat) : Str := c ++ numS n
theorem num_l (n : Nat) : (numS n).cps.toList = numL n := tl_num n
theorem num_len {n : Nat} (h : n < 100000) : (numS n).length ≤ 5 := by
  have e : (numS n).length = (numL n).length := by rw [← num_l n]; rfl
  rw [e]
  exact numL_len (by decide) (by simpa using h)
theorem log_ok (n : Nat) (h : n < 100000) : ((n : Int)).natAbs.log2 < 1920 := by
  have h1 : ((n : Int)).natAbs = n := rfl
  rw [h1]
  by_cases h0 : n = 0
  · subst h0; decide
  · exact (Nat.log2_lt h0).mpr (Nat.lt_of_lt_of_le h (by decide))
theorem str_ok {n : Nat} (h : n < 100000) : gStr [.d (.int n)] = .ok (.d (.str (numS n))) := if_pos (log_ok n h)
theorem int_ok {n : Nat} (h : n < 100000) : gInt [.d (.str (numS n))] = .ok (.d (.int n)) := by
  have e : PySem.intText? (numS n) = some (n : Int) := int_num (Nat.le_trans (numL_len (k := 5) (by decide) (by simpa using h)) (by decide))
  show (rsO (PySem.intText? (numS n))).bind _ = _
  rw [e]
  have := num_len h
  simp only [rsO_some, Rs.bind_ok]
  rw [if_pos (by omega)]
  rfl
theorem app_l (a b : Str) : (a ++ b).cps.toList = a.cps.toList ++ b.cps.toList := by
  show (a.cps ++ b.cps).toList = _
  simp
theorem str_ext {a b : Str} (h : a.cps.toList = b.cps.toList) : a = b := by
  cases a; cases b
  congr 1
  exact Array.toList_inj.mp h
/-- the letters -/
structure Letter (c : Str) (k : Nat) : Prop where
  l : c.cps.toList = [k]
theorem let_x : Letter "x" 120 := ⟨by decide +kernel⟩
theorem let_r : Letter "r" 114 := ⟨by decide +kernel⟩
theorem let_s : Letter "s" 115 := ⟨by decide +kernel⟩
theorem Letter.eq {c : Str} {k : Nat} (h : Letter c k) : c = ⟨#[k]⟩ := str_ext h.l
theorem Letter.len {c : Str} {k : Nat} (h : Letter c k) : c.length = 1 := by
  have : c.length = c.cps.toList.length := by show c.cps.size = _; simp
  rw [this, h.l]; rfl
theorem lx_l {c : Str} {k : Nat} (h : Letter c k) (n : Nat) : (lx c n).cps.toList = k :: numL n := by
  unfold lx
  rw [app_l, h.l, num_l]; rfl
theorem lx_len {c : Str} {k : Nat} (h : Letter c k) {n : Nat} (hn : n < 100000) : (lx c n).length ≤ 6 := by
  have e : (lx c n).length = (lx c n).cps.toList.length := by show (lx c n).cps.size = _; simp
  have := numL_len (n := n) (k := 5) (by decide) (by simpa using hn)
  rw [e, lx_l h]
  simp
  exact this
theorem lx_head {c : Str} {k : Nat} (h : Letter c k) {n : Nat} (hn : n < 100000) : gIx (.d (.str (lx c n))) (.d (.int 0)) = .ok (.d (.str c)) := by
  have := lx_len h hn
  rw [e_ixS, if_pos (by omega), lx_l h, atI_zero]
  rw [h.eq]; rfl
theorem num_head {n : Nat} (hn : n < 100000) : ∃ d, 48 ≤ d ∧ d ≤ 57 ∧ gIx (.d (.str (numS n))) (.d (.int 0)) = .ok (.d (.str ⟨#[d]⟩)) := by
  have h1 := num_len hn
  have h2 := numL_digits n
  have h3 := numL_ne n
  rw [e_ixS, if_pos (by omega), num_l]
  cases e : numL n with
  | nil => exact absurd e h3
  | cons d ds =>
    have := h2 d (by rw [e]; exact List.mem_cons_self)
    exact ⟨d, by omega, by omega, by rw [atI_zero]; rfl⟩
theorem one_ne {a b : Nat} (h : a ≠ b) : (⟨#[a]⟩ : Str) ≠ ⟨#[b]⟩ := fun e => h (by injection e with e; simpa using e)
theorem lx_tail {c : Str} {k : Nat} (h : Letter c k) {n : Nat} (hn : n < 100000) : gSl (.d (.str (lx c n))) (some 1) none = .ok (.d (.str (numS n))) := by
  have hl := lx_len h hn
  have e : (lx c n).length = (numL n).length + 1 := by
    have : (lx c n).length = (lx c n).cps.toList.length := by show (lx c n).cps.size = _; simp
    rw [this, lx_l h]; rfl
  show (if (lx c n).length ≤ 1000000 then Rs.ok (RV.d (.str (cutS (lx c n) (some 1) none))) else .no) = _
  rw [if_pos (by omega)]
  congr 3
  apply str_ext
  unfold cutS
  have e1 : HT.sIx (lx c n).length 0 (some 1) = 1 := by
    rw [show (1 : Int) = ((1 : Nat) : Int) from rfl, HT.sIx_nat]; omega
  rw [e1, HT.sIx_none, e, lx_l h, num_l]
  simp
@[simp] theorem eqv_str (a b : Str) : PyData.eqv (.str a) (.str b) = decide (a = b) := by
  rw [PyData.eqv]
  by_cases h : a = b <;> simp [h]
/-! ### shapes at any depth -/
structure Nice (k : Nat) (d : PyData) : Prop where
  lay : d.canLay0 = true
  dep : d.depth ≤ k
theorem nice_all {k : Nat} : ∀ {ds : List PyData}, (∀ d ∈ ds, Nice k d) → PyData.canLayAll0 ds = true ∧ PyData.depthAll ds ≤ k
  | [], _ => ⟨rfl, Nat.zero_le _⟩
  | d :: ds, h => by
    obtain ⟨h1, h2⟩ := nice_all fun x hx => h x (List.mem_cons_of_mem _ hx)
    have h3 := h d List.mem_cons_self
    refine ⟨?_, ?_⟩
    · show (PyData.canLay0 d && PyData.canLayAll0 ds) = true
      rw [h3.lay, h1]; rfl
    · show max d.depth (PyData.depthAll ds) ≤ k
      have := h3.dep
      omega
theorem Nice.tup {k : Nat} {ds : List PyData} (h : ∀ d ∈ ds, Nice k d) : Nice (k + 1) (.tuple ds) := ⟨(nice_all h).1, Nat.succ_le_succ (nice_all h).2⟩
theorem Nice.lst {k : Nat} {ds : List PyData} (h : ∀ d ∈ ds, Nice k d) : Nice (k + 1) (.list ds) := ⟨(nice_all h).1, Nat.succ_le_succ (nice_all h).2⟩
theorem Nice.int (k : Nat) (i : Int) : Nice k (.int i) := ⟨rfl, Nat.zero_le _⟩
theorem Nice.bool (k : Nat) (i : Bool) : Nice k (.bool i) := ⟨rfl, Nat.zero_le _⟩
theorem Nice.none (k : Nat) : Nice k .none := ⟨rfl, Nat.zero_le _⟩
theorem Nice.str (k : Nat) {s : Str} (h : PyData.strOk s = true) : Nice k (.str s) := ⟨h, Nat.zero_le _⟩
theorem Nice.shaped {k : Nat} {d : PyData} (h : Nice k d) (hk : k ≤ 64) : SeqAt.shaped d = true := by
  unfold SeqAt.shaped
  rw [h.lay, decide_eq_true (Nat.le_trans h.dep hk)]
  rfl
theorem Nice.refl {k : Nat} {d : PyData} (h : Nice k d) : PyData.eqv d d = true := SeqAt.eqv_refl d h.lay
theorem ok_of {s : Str} (h : ∀ c ∈ s.cps.toList, c < 200) : PyData.strOk s = true := by
  unfold PyData.strOk
  rw [Array.all_eq_true']
  intro c hc
  have := h c (by simpa using hc)
  simp
  omega
theorem num_strOk (n : Nat) : PyData.strOk (numS n) = true := ok_of fun c hc => by
  rw [num_l] at hc
  have := numL_digits n c hc
  omega
theorem lx_strOk {c : Str} {k : Nat} (h : Letter c k) (hk : k < 200) (n : Nat) : PyData.strOk (lx c n) = true := ok_of fun d hd => by
  rw [lx_l h] at hd
  rcases List.mem_cons.mp hd with rfl | hd
  · exact hk
  · have := numL_digits n d hd
    omega
theorem turns (ns : List Int) (h : ns.length ≤ 63) (a b : Int) (hb : 0 < b) (hb2 : b < 1000) (ha0 : 0 ≤ a) (ha : a ≤ 1000) (env : VEnv) (h0 : env[0]? = some (some (.sc ns))) : ∃ m : Nat, (m : Int) ≤ a ∧ (iR gR1 (aC (cA gMin2 (aC (cC (.int a)) (aC (c2 gAdd (cC (.int 1)) (c2 gDiv (cA gLen (aC (cV 0) aN)) (cC (.int b)))) aN))) aN)) env = .ok ((List.range m).map natI) := by
  have hd : 0 ≤ (ns.length : Int) / b := Int.ediv_nonneg (by omega) (by omega)
  obtain ⟨q, hq⟩ : ∃ q, q = (if 1 + (ns.length : Int) / b < a then 1 + (ns.length : Int) / b else a) := ⟨_, rfl⟩
  have hm : q.natAbs ≤ 1000000 ∧ 0 ≤ q ∧ q ≤ a := by rw [hq]; split <;> omega
  refine ⟨q.toNat, by omega, ?_⟩
  have := e_R1 hm.1
  rw [rng_nat] at this
  have hbb : 0 < b ∧ b.natAbs < 1073741824 := by omega
  simp only [e_iR, e_aC, e_cA, e_aN, e_c2, e_V, h0, Rs.bind_ok, e_cC, e_bor4, e_lenSc, e_div, if_pos hbb, e_addI, e_min2, ← hq, this]
/-! ### configurations -/
def canM (us : List (List Int)) (h : List Int) (s : Int) : Bool := (usAt us s).all fun u => decide (u ∈ h)
def movM (h : List Int) (s : Int) : List Int := if s ∈ h then h.filter fun x => decide (x ≠ s) else isort (h ++ [s])
theorem ne_int (a b : Int) : (!decide (a = b)) = decide (a ≠ b) := by simp
theorem lc_ints {env : VEnv} {t : VEnv → Rs Bool} (i : Nat) (xs : List Int) (p : Int → Bool) (hi : i < env.length) (h : ∀ x ∈ xs, t (env.set i (some (.d (.int x)))) = .ok (p x)) : lcF (.nm i) t (cV i) env (xs.map .int) = .ok ((xs.filter p).map .int) := by
  refine lcF_map PyData.int p PyData.int xs fun x hx => ⟨env.set i (some (.d (.int x))), by rw [e_tgnm, if_pos hi], h x hx, fun _ => ⟨.d (.int x), ?_, rfl⟩⟩
  rw [e_V, List.getElem?_set_self hi]
  rfl
theorem lc_nats {env : VEnv} {t : VEnv → Rs Bool} (i : Nat) (xs : List Nat) (p : Nat → Bool) (hi : i < env.length) (h : ∀ x ∈ xs, t (env.set i (some (.d (.int (x : Int))))) = .ok (p x)) : lcF (.nm i) t (cV i) env (xs.map natI) = .ok ((xs.filter p).map natI) := by
  refine lcF_map natI p natI xs fun x hx => ⟨env.set i (some (.d (.int x))), by rw [e_tgnm, if_pos hi]; rfl, h x hx, fun _ => ⟨.d (.int x), ?_, rfl⟩⟩
  rw [e_V, List.getElem?_set_self hi]
  rfl
def tupD (r : List Int) : PyData := .tuple (r.map .int)
theorem movM_len (h : List Int) (s : Int) : (movM h s).length ≤ h.length + 1 := by
  unfold movM
  split
  · exact Nat.le_succ_of_le (List.length_filter_le _ _)
  · rw [(isort_perm _).length_eq]; simp
def behindM (h r : List Int) : List Int := r.foldl movM h
theorem behindM_len : ∀ (r h : List Int), (behindM h r).length ≤ h.length + r.length
  | [], h => Nat.le_refl _
  | x :: r, h => by
    have := behindM_len r (movM h x)
    have := movM_len h x
    show (behindM (movM h x) r).length ≤ h.length + (r.length + 1)
    omega
theorem moved_ok (h : List Int) (s : Int) (hl : h.length ≤ 1000) : F_moved [.d (.tuple (h.map .int)), .d (.int s)] = .ok (.d (.tuple ((movM h s).map .int))) := by
  show (sSeq _ _ [some (.d (.tuple (h.map .int))), some (.d (.int s)), none]).fin = _
  have hz : h.length ≤ 1000000 := by omega
  have hz2 : h.length ≤ 999999 := by omega
  have hc : lcF (.nm 2) (cB (c2 gNe (cV 2) (cV 1))) (cV 2) [some (.d (.tuple (h.map .int))), some (.d (.int s)), none] (h.map .int) = .ok ((h.filter fun x => decide (x ≠ s)).map .int) :=
    lc_ints 2 h _ (by simp) fun x _ => by
      simp only [List.set_cons_succ, List.set_cons_zero]
      simp only [e_nil, e_seq, e_fz, e_bk, e_ct, e_ret, e_retN, e_drop, e_set, e_if, e_for, e_cC, e_c2, e_c1, e_cA, e_aN, e_aC, e_cB, e_asB, e_bNot, e_bAnd, e_bOr, e_vAnd, e_vOr, e_vNot, e_vIf, e_bYes, e_iL, e_iT, e_iLb, e_iR, e_gL1, e_gL2, e_gL3, e_gT, e_gLb1, e_gLb2, e_gLb3, e_gLb4, e_nb1, e_nb2, e_bor1, e_bor2, e_bor3, e_bor4, e_arg1, e_arg2, e_arg3, e_arg4, e_putd, e_puto, e_toD1, e_toD2, e_allD0, e_allD1, e_allD2, e_gTupl, e_gList, e_tgnm, e_tgtp, e_tg0, e_tg1, e_sq1, e_sq2, e_sq3, e_sq4, e_sq5, e_qv2, e_qv3, e_qv4, e_qv5, e_data1, e_data2, e_data3, e_okI, e_okB, e_i2, e_sub, e_mul, e_mod, e_div, e_pow, e_lt, e_le, e_gt, e_ge, e_neg, e_addI, e_addS, e_addT, e_addL1, e_addL2, e_addL3, e_addL4, e_addL5, e_addL6, e_addL7, e_addL8, e_addL9, e_eq, e_ne, e_in, e_notIn, e_inT, e_inT2, e_inL1, e_inL2, e_inL3, e_is, e_isNot, e_isN1, e_isN2, e_isN3, e_isN4, e_isN5, e_isN6, e_isN7, e_ixT, e_ixL, e_ixO, e_ixB, e_ixSc, e_lenT, e_lenL, e_lenO, e_lenB, e_lenSc, e_lenS, e_tupT, e_tupL, e_tupO, e_tupB, e_lisT, e_lisL, e_lisO, e_lisB, e_min2, e_max2, e_any, e_all, e_sum, e_sorted, e_rev, e_sl, e_oN, e_isi, e_lc, e_wipe0, e_wipe1, e_iA, e_iAb, e_gAq1, e_gAq2, e_gAq3, e_gAqb1, e_gAqb2, e_gAqb3, e_gAqb4, e_no, e_cCh, e_cChI, e_aug, e_decT, e_decF, e_cDispS, e_cDT, e_cDK, e_cDisp1, e_storeA, e_stR1, e_stR2, e_stR3, e_sd1, e_keyD1, e_keyD2, e_keyTD, e_intsD, e_intsD0, e_borT, e_borT2, e_borK, e_borK2, e_argT, e_argT2, e_argK, e_argK2, e_nbT, e_nbK, e_putT, e_putK, e_gAt1, e_gAt2, e_gAt3, e_gAt4, e_gGetDK, e_gGetDT, e_gIxD, e_gInD, e_gNotInD, e_cGet1, e_cGet2, e_dk1, e_dk2, e_dk3, e_dk4, e_dt1, e_dt2, e_del, atI_zero, e_at1, e_at2, e_at3, e_at4, e_at5, e_at6, e_at7, e_at8, e_at9, e_atm, e_V, e_retV, e_unp, e_app, e_store, e_fzE, oS, rsO_some, Rs.bind_ok, Rs.bind_no, Rs.out_ok, Out.then_nx, Out.then_rt, Out.then_ct, Out.then_bk, fin_rt, fin_nx, List.getElem?_cons_zero, List.getElem?_cons_succ, List.set_cons_succ, List.set_cons_zero, List.length_cons, List.length_nil, Nat.reduceAdd, Nat.reduceLT, Nat.reduceLeDiff, Nat.reduceEqDiff, if_true, if_false, Bool.false_eq_true, Bool.not_true, Bool.not_false, and_self, true_and, and_true, List.map_cons, List.map_nil, Option.map_some, sh_int, sh_bool, sh_none, sh_tup, sh_lst, eqv_int, reduceIte, Option.bind_some, Option.bind_none, kitB_ll, kitB_lt, kitB_tt, kitB_tl, kitB_ii, tyD_list, tyD_int, Bool.true_and, Bool.false_and, Bool.and_true, Bool.and_false, Bool.or_true, Bool.true_or, Bool.false_or, Bool.or_false, Bool.and_self, Bool.or_self, e_cAK, List.append_nil, List.nil_append, List.cons_append, e_andB, e_orB, e_andR, e_orR, tyD_tuple, eqv_bool, eqv_none, tyD_bool, tyD_str, tyD_none, kitB_bb, kitB_nb, kitB_bi, kitB_ib, kitB_nl, kitB_nt, beq_self_eq_true, ne_int]
  have hm : (h.map PyData.int ++ [.int s]) = (h ++ [s]).map PyData.int := by simp
  by_cases hs : s ∈ h
  · have : movM h s = h.filter fun x => decide (x ≠ s) := if_pos hs
    rw [this]
    simp only [e_nil, e_seq, e_fz, e_bk, e_ct, e_ret, e_retN, e_drop, e_set, e_if, e_for, e_cC, e_c2, e_c1, e_cA, e_aN, e_aC, e_cB, e_asB, e_bNot, e_bAnd, e_bOr, e_vAnd, e_vOr, e_vNot, e_vIf, e_bYes, e_iL, e_iT, e_iLb, e_iR, e_gL1, e_gL2, e_gL3, e_gT, e_gLb1, e_gLb2, e_gLb3, e_gLb4, e_nb1, e_nb2, e_bor1, e_bor2, e_bor3, e_bor4, e_arg1, e_arg2, e_arg3, e_arg4, e_putd, e_puto, e_toD1, e_toD2, e_allD0, e_allD1, e_allD2, e_gTupl, e_gList, e_tgnm, e_tgtp, e_tg0, e_tg1, e_sq1, e_sq2, e_sq3, e_sq4, e_sq5, e_qv2, e_qv3, e_qv4, e_qv5, e_data1, e_data2, e_data3, e_okI, e_okB, e_i2, e_sub, e_mul, e_mod, e_div, e_pow, e_lt, e_le, e_gt, e_ge, e_neg, e_addI, e_addS, e_addT, e_addL1, e_addL2, e_addL3, e_addL4, e_addL5, e_addL6, e_addL7, e_addL8, e_addL9, e_eq, e_ne, e_in, e_notIn, e_inT, e_inT2, e_inL1, e_inL2, e_inL3, e_is, e_isNot, e_isN1, e_isN2, e_isN3, e_isN4, e_isN5, e_isN6, e_isN7, e_ixT, e_ixL, e_ixO, e_ixB, e_ixSc, e_lenT, e_lenL, e_lenO, e_lenB, e_lenSc, e_lenS, e_tupT, e_tupL, e_tupO, e_tupB, e_lisT, e_lisL, e_lisO, e_lisB, e_min2, e_max2, e_any, e_all, e_sum, e_sorted, e_rev, e_sl, e_oN, e_isi, e_lc, e_wipe0, e_wipe1, e_iA, e_iAb, e_gAq1, e_gAq2, e_gAq3, e_gAqb1, e_gAqb2, e_gAqb3, e_gAqb4, e_no, e_cCh, e_cChI, e_aug, e_decT, e_decF, e_cDispS, e_cDT, e_cDK, e_cDisp1, e_storeA, e_stR1, e_stR2, e_stR3, e_sd1, e_keyD1, e_keyD2, e_keyTD, e_intsD, e_intsD0, e_borT, e_borT2, e_borK, e_borK2, e_argT, e_argT2, e_argK, e_argK2, e_nbT, e_nbK, e_putT, e_putK, e_gAt1, e_gAt2, e_gAt3, e_gAt4, e_gGetDK, e_gGetDT, e_gIxD, e_gInD, e_gNotInD, e_cGet1, e_cGet2, e_dk1, e_dk2, e_dk3, e_dk4, e_dt1, e_dt2, e_del, atI_zero, e_at1, e_at2, e_at3, e_at4, e_at5, e_at6, e_at7, e_at8, e_at9, e_atm, e_V, e_retV, e_unp, e_app, e_store, e_fzE, oS, rsO_some, Rs.bind_ok, Rs.bind_no, Rs.out_ok, Out.then_nx, Out.then_rt, Out.then_ct, Out.then_bk, fin_rt, fin_nx, List.getElem?_cons_zero, List.getElem?_cons_succ, List.set_cons_succ, List.set_cons_zero, List.length_cons, List.length_nil, Nat.reduceAdd, Nat.reduceLT, Nat.reduceLeDiff, Nat.reduceEqDiff, if_true, if_false, Bool.false_eq_true, Bool.not_true, Bool.not_false, and_self, true_and, and_true, List.map_cons, List.map_nil, Option.map_some, sh_int, sh_bool, sh_none, sh_tup, sh_lst, eqv_int, reduceIte, Option.bind_some, Option.bind_none, kitB_ll, kitB_lt, kitB_tt, kitB_tl, kitB_ii, tyD_list, tyD_int, Bool.true_and, Bool.false_and, Bool.and_true, Bool.and_false, Bool.or_true, Bool.true_or, Bool.false_or, Bool.or_false, Bool.and_self, Bool.or_self, e_cAK, List.append_nil, List.nil_append, List.cons_append, e_andB, e_orB, e_andR, e_orR, tyD_tuple, eqv_bool, eqv_none, tyD_bool, tyD_str, tyD_none, kitB_bb, kitB_nb, kitB_bi, kitB_ib, kitB_nl, kitB_nt, beq_self_eq_true, anyI, decide_eq_true hs, List.length_map, if_pos hz, hc]
  · have : movM h s = isort (h ++ [s]) := if_neg hs
    rw [this]
    simp only [e_nil, e_seq, e_fz, e_bk, e_ct, e_ret, e_retN, e_drop, e_set, e_if, e_for, e_cC, e_c2, e_c1, e_cA, e_aN, e_aC, e_cB, e_asB, e_bNot, e_bAnd, e_bOr, e_vAnd, e_vOr, e_vNot, e_vIf, e_bYes, e_iL, e_iT, e_iLb, e_iR, e_gL1, e_gL2, e_gL3, e_gT, e_gLb1, e_gLb2, e_gLb3, e_gLb4, e_nb1, e_nb2, e_bor1, e_bor2, e_bor3, e_bor4, e_arg1, e_arg2, e_arg3, e_arg4, e_putd, e_puto, e_toD1, e_toD2, e_allD0, e_allD1, e_allD2, e_gTupl, e_gList, e_tgnm, e_tgtp, e_tg0, e_tg1, e_sq1, e_sq2, e_sq3, e_sq4, e_sq5, e_qv2, e_qv3, e_qv4, e_qv5, e_data1, e_data2, e_data3, e_okI, e_okB, e_i2, e_sub, e_mul, e_mod, e_div, e_pow, e_lt, e_le, e_gt, e_ge, e_neg, e_addI, e_addS, e_addT, e_addL1, e_addL2, e_addL3, e_addL4, e_addL5, e_addL6, e_addL7, e_addL8, e_addL9, e_eq, e_ne, e_in, e_notIn, e_inT, e_inT2, e_inL1, e_inL2, e_inL3, e_is, e_isNot, e_isN1, e_isN2, e_isN3, e_isN4, e_isN5, e_isN6, e_isN7, e_ixT, e_ixL, e_ixO, e_ixB, e_ixSc, e_lenT, e_lenL, e_lenO, e_lenB, e_lenSc, e_lenS, e_tupT, e_tupL, e_tupO, e_tupB, e_lisT, e_lisL, e_lisO, e_lisB, e_min2, e_max2, e_any, e_all, e_sum, e_sorted, e_rev, e_sl, e_oN, e_isi, e_lc, e_wipe0, e_wipe1, e_iA, e_iAb, e_gAq1, e_gAq2, e_gAq3, e_gAqb1, e_gAqb2, e_gAqb3, e_gAqb4, e_no, e_cCh, e_cChI, e_aug, e_decT, e_decF, e_cDispS, e_cDT, e_cDK, e_cDisp1, e_storeA, e_stR1, e_stR2, e_stR3, e_sd1, e_keyD1, e_keyD2, e_keyTD, e_intsD, e_intsD0, e_borT, e_borT2, e_borK, e_borK2, e_argT, e_argT2, e_argK, e_argK2, e_nbT, e_nbK, e_putT, e_putK, e_gAt1, e_gAt2, e_gAt3, e_gAt4, e_gGetDK, e_gGetDT, e_gIxD, e_gInD, e_gNotInD, e_cGet1, e_cGet2, e_dk1, e_dk2, e_dk3, e_dk4, e_dt1, e_dt2, e_del, atI_zero, e_at1, e_at2, e_at3, e_at4, e_at5, e_at6, e_at7, e_at8, e_at9, e_atm, e_V, e_retV, e_unp, e_app, e_store, e_fzE, oS, rsO_some, Rs.bind_ok, Rs.bind_no, Rs.out_ok, Out.then_nx, Out.then_rt, Out.then_ct, Out.then_bk, fin_rt, fin_nx, List.getElem?_cons_zero, List.getElem?_cons_succ, List.set_cons_succ, List.set_cons_zero, List.length_cons, List.length_nil, Nat.reduceAdd, Nat.reduceLT, Nat.reduceLeDiff, Nat.reduceEqDiff, if_true, if_false, Bool.false_eq_true, Bool.not_true, Bool.not_false, and_self, true_and, and_true, List.map_cons, List.map_nil, Option.map_some, sh_int, sh_bool, sh_none, sh_tup, sh_lst, eqv_int, reduceIte, Option.bind_some, Option.bind_none, kitB_ll, kitB_lt, kitB_tt, kitB_tl, kitB_ii, tyD_list, tyD_int, Bool.true_and, Bool.false_and, Bool.and_true, Bool.and_false, Bool.or_true, Bool.true_or, Bool.false_or, Bool.or_false, Bool.and_self, Bool.or_self, e_cAK, List.append_nil, List.nil_append, List.cons_append, e_andB, e_orB, e_andR, e_orR, tyD_tuple, eqv_bool, eqv_none, tyD_bool, tyD_str, tyD_none, kitB_bb, kitB_nb, kitB_bi, kitB_ib, kitB_nl, kitB_nt, beq_self_eq_true, anyI, decide_eq_false hs, List.length_map, if_pos hz2, hm, intsD_map]
theorem possible_ok (us : List (List Int)) (ts h : List Int) (s : Int) (h0 : 0 ≤ s) (h1 : s < us.length) : F_is_possible [.d (encT us ts), .d (.tuple (h.map .int)), .d (.int s)] = .ok (.d (.bool (canM us h s))) := by
  have ha := encU_at us h0 h1
  have hs : gIx (.d (encT us ts)) (.d (.int 0)) = .ok (.d (.tuple (encU us))) := rfl
  have main : ∀ (xs : List Int) (e3 : Option RV), ∃ e3' : Option RV, loopF (.nm 3) L0_is_possible (xs.map .int) [some (.d (encT us ts)), some (.d (.tuple (h.map .int))), some (.d (.int s)), e3] = if (xs.all fun u => decide (u ∈ h)) = true then .nx [some (.d (encT us ts)), some (.d (.tuple (h.map .int))), some (.d (.int s)), e3'] else .rt (.d (.bool false)) := by
    intro xs
    induction xs with
    | nil => exact fun e3 => ⟨e3, rfl⟩
    | cons x xs ih =>
      intro e3
      obtain ⟨e3', ih⟩ := ih (some (.d (.int x)))
      refine ⟨e3', ?_⟩
      rw [List.map_cons, loopF_cons]
      simp only [e_nil, e_seq, e_fz, e_bk, e_ct, e_ret, e_retN, e_drop, e_set, e_if, e_for, e_cC, e_c2, e_c1, e_cA, e_aN, e_aC, e_cB, e_asB, e_bNot, e_bAnd, e_bOr, e_vAnd, e_vOr, e_vNot, e_vIf, e_bYes, e_iL, e_iT, e_iLb, e_iR, e_gL1, e_gL2, e_gL3, e_gT, e_gLb1, e_gLb2, e_gLb3, e_gLb4, e_nb1, e_nb2, e_bor1, e_bor2, e_bor3, e_bor4, e_arg1, e_arg2, e_arg3, e_arg4, e_putd, e_puto, e_toD1, e_toD2, e_allD0, e_allD1, e_allD2, e_gTupl, e_gList, e_tgnm, e_tgtp, e_tg0, e_tg1, e_sq1, e_sq2, e_sq3, e_sq4, e_sq5, e_qv2, e_qv3, e_qv4, e_qv5, e_data1, e_data2, e_data3, e_okI, e_okB, e_i2, e_sub, e_mul, e_mod, e_div, e_pow, e_lt, e_le, e_gt, e_ge, e_neg, e_addI, e_addS, e_addT, e_addL1, e_addL2, e_addL3, e_addL4, e_addL5, e_addL6, e_addL7, e_addL8, e_addL9, e_eq, e_ne, e_in, e_notIn, e_inT, e_inT2, e_inL1, e_inL2, e_inL3, e_is, e_isNot, e_isN1, e_isN2, e_isN3, e_isN4, e_isN5, e_isN6, e_isN7, e_ixT, e_ixL, e_ixO, e_ixB, e_ixSc, e_lenT, e_lenL, e_lenO, e_lenB, e_lenSc, e_lenS, e_tupT, e_tupL, e_tupO, e_tupB, e_lisT, e_lisL, e_lisO, e_lisB, e_min2, e_max2, e_any, e_all, e_sum, e_sorted, e_rev, e_sl, e_oN, e_isi, e_lc, e_wipe0, e_wipe1, e_iA, e_iAb, e_gAq1, e_gAq2, e_gAq3, e_gAqb1, e_gAqb2, e_gAqb3, e_gAqb4, e_no, e_cCh, e_cChI, e_aug, e_decT, e_decF, e_cDispS, e_cDT, e_cDK, e_cDisp1, e_storeA, e_stR1, e_stR2, e_stR3, e_sd1, e_keyD1, e_keyD2, e_keyTD, e_intsD, e_intsD0, e_borT, e_borT2, e_borK, e_borK2, e_argT, e_argT2, e_argK, e_argK2, e_nbT, e_nbK, e_putT, e_putK, e_gAt1, e_gAt2, e_gAt3, e_gAt4, e_gGetDK, e_gGetDT, e_gIxD, e_gInD, e_gNotInD, e_cGet1, e_cGet2, e_dk1, e_dk2, e_dk3, e_dk4, e_dt1, e_dt2, e_del, atI_zero, e_at1, e_at2, e_at3, e_at4, e_at5, e_at6, e_at7, e_at8, e_at9, e_atm, e_V, e_retV, e_unp, e_app, e_store, e_fzE, oS, rsO_some, Rs.bind_ok, Rs.bind_no, Rs.out_ok, Out.then_nx, Out.then_rt, Out.then_ct, Out.then_bk, fin_rt, fin_nx, List.getElem?_cons_zero, List.getElem?_cons_succ, List.set_cons_succ, List.set_cons_zero, List.length_cons, List.length_nil, Nat.reduceAdd, Nat.reduceLT, Nat.reduceLeDiff, Nat.reduceEqDiff, if_true, if_false, Bool.false_eq_true, Bool.not_true, Bool.not_false, and_self, true_and, and_true, List.map_cons, List.map_nil, Option.map_some, sh_int, sh_bool, sh_none, sh_tup, sh_lst, eqv_int, reduceIte, Option.bind_some, Option.bind_none, kitB_ll, kitB_lt, kitB_tt, kitB_tl, kitB_ii, tyD_list, tyD_int, Bool.true_and, Bool.false_and, Bool.and_true, Bool.and_false, Bool.or_true, Bool.true_or, Bool.false_or, Bool.or_false, Bool.and_self, Bool.or_self, e_cAK, List.append_nil, List.nil_append, List.cons_append, e_andB, e_orB, e_andR, e_orR, tyD_tuple, eqv_bool, eqv_none, tyD_bool, tyD_str, tyD_none, kitB_bb, kitB_nb, kitB_bi, kitB_ib, kitB_nl, kitB_nt, beq_self_eq_true]
      have e : L0_is_possible [some (.d (encT us ts)), some (.d (.tuple (h.map .int))), some (.d (.int s)), some (.d (.int x))] = if x ∈ h then .nx [some (.d (encT us ts)), some (.d (.tuple (h.map .int))), some (.d (.int s)), some (.d (.int x))] else .rt (.d (.bool false)) := by
        unfold L0_is_possible
        by_cases hx : x ∈ h
        · simp only [e_nil, e_seq, e_fz, e_bk, e_ct, e_ret, e_retN, e_drop, e_set, e_if, e_for, e_cC, e_c2, e_c1, e_cA, e_aN, e_aC, e_cB, e_asB, e_bNot, e_bAnd, e_bOr, e_vAnd, e_vOr, e_vNot, e_vIf, e_bYes, e_iL, e_iT, e_iLb, e_iR, e_gL1, e_gL2, e_gL3, e_gT, e_gLb1, e_gLb2, e_gLb3, e_gLb4, e_nb1, e_nb2, e_bor1, e_bor2, e_bor3, e_bor4, e_arg1, e_arg2, e_arg3, e_arg4, e_putd, e_puto, e_toD1, e_toD2, e_allD0, e_allD1, e_allD2, e_gTupl, e_gList, e_tgnm, e_tgtp, e_tg0, e_tg1, e_sq1, e_sq2, e_sq3, e_sq4, e_sq5, e_qv2, e_qv3, e_qv4, e_qv5, e_data1, e_data2, e_data3, e_okI, e_okB, e_i2, e_sub, e_mul, e_mod, e_div, e_pow, e_lt, e_le, e_gt, e_ge, e_neg, e_addI, e_addS, e_addT, e_addL1, e_addL2, e_addL3, e_addL4, e_addL5, e_addL6, e_addL7, e_addL8, e_addL9, e_eq, e_ne, e_in, e_notIn, e_inT, e_inT2, e_inL1, e_inL2, e_inL3, e_is, e_isNot, e_isN1, e_isN2, e_isN3, e_isN4, e_isN5, e_isN6, e_isN7, e_ixT, e_ixL, e_ixO, e_ixB, e_ixSc, e_lenT, e_lenL, e_lenO, e_lenB, e_lenSc, e_lenS, e_tupT, e_tupL, e_tupO, e_tupB, e_lisT, e_lisL, e_lisO, e_lisB, e_min2, e_max2, e_any, e_all, e_sum, e_sorted, e_rev, e_sl, e_oN, e_isi, e_lc, e_wipe0, e_wipe1, e_iA, e_iAb, e_gAq1, e_gAq2, e_gAq3, e_gAqb1, e_gAqb2, e_gAqb3, e_gAqb4, e_no, e_cCh, e_cChI, e_aug, e_decT, e_decF, e_cDispS, e_cDT, e_cDK, e_cDisp1, e_storeA, e_stR1, e_stR2, e_stR3, e_sd1, e_keyD1, e_keyD2, e_keyTD, e_intsD, e_intsD0, e_borT, e_borT2, e_borK, e_borK2, e_argT, e_argT2, e_argK, e_argK2, e_nbT, e_nbK, e_putT, e_putK, e_gAt1, e_gAt2, e_gAt3, e_gAt4, e_gGetDK, e_gGetDT, e_gIxD, e_gInD, e_gNotInD, e_cGet1, e_cGet2, e_dk1, e_dk2, e_dk3, e_dk4, e_dt1, e_dt2, e_del, atI_zero, e_at1, e_at2, e_at3, e_at4, e_at5, e_at6, e_at7, e_at8, e_at9, e_atm, e_V, e_retV, e_unp, e_app, e_store, e_fzE, oS, rsO_some, Rs.bind_ok, Rs.bind_no, Rs.out_ok, Out.then_nx, Out.then_rt, Out.then_ct, Out.then_bk, fin_rt, fin_nx, List.getElem?_cons_zero, List.getElem?_cons_succ, List.set_cons_succ, List.set_cons_zero, List.length_cons, List.length_nil, Nat.reduceAdd, Nat.reduceLT, Nat.reduceLeDiff, Nat.reduceEqDiff, if_true, if_false, Bool.false_eq_true, Bool.not_true, Bool.not_false, and_self, true_and, and_true, List.map_cons, List.map_nil, Option.map_some, sh_int, sh_bool, sh_none, sh_tup, sh_lst, eqv_int, reduceIte, Option.bind_some, Option.bind_none, kitB_ll, kitB_lt, kitB_tt, kitB_tl, kitB_ii, tyD_list, tyD_int, Bool.true_and, Bool.false_and, Bool.and_true, Bool.and_false, Bool.or_true, Bool.true_or, Bool.false_or, Bool.or_false, Bool.and_self, Bool.or_self, e_cAK, List.append_nil, List.nil_append, List.cons_append, e_andB, e_orB, e_andR, e_orR, tyD_tuple, eqv_bool, eqv_none, tyD_bool, tyD_str, tyD_none, kitB_bb, kitB_nb, kitB_bi, kitB_ib, kitB_nl, kitB_nt, beq_self_eq_true, anyI, decide_eq_true hx, if_pos hx]
        · simp only [e_nil, e_seq, e_fz, e_bk, e_ct, e_ret, e_retN, e_drop, e_set, e_if, e_for, e_cC, e_c2, e_c1, e_cA, e_aN, e_aC, e_cB, e_asB, e_bNot, e_bAnd, e_bOr, e_vAnd, e_vOr, e_vNot, e_vIf, e_bYes, e_iL, e_iT, e_iLb, e_iR, e_gL1, e_gL2, e_gL3, e_gT, e_gLb1, e_gLb2, e_gLb3, e_gLb4, e_nb1, e_nb2, e_bor1, e_bor2, e_bor3, e_bor4, e_arg1, e_arg2, e_arg3, e_arg4, e_putd, e_puto, e_toD1, e_toD2, e_allD0, e_allD1, e_allD2, e_gTupl, e_gList, e_tgnm, e_tgtp, e_tg0, e_tg1, e_sq1, e_sq2, e_sq3, e_sq4, e_sq5, e_qv2, e_qv3, e_qv4, e_qv5, e_data1, e_data2, e_data3, e_okI, e_okB, e_i2, e_sub, e_mul, e_mod, e_div, e_pow, e_lt, e_le, e_gt, e_ge, e_neg, e_addI, e_addS, e_addT, e_addL1, e_addL2, e_addL3, e_addL4, e_addL5, e_addL6, e_addL7, e_addL8, e_addL9, e_eq, e_ne, e_in, e_notIn, e_inT, e_inT2, e_inL1, e_inL2, e_inL3, e_is, e_isNot, e_isN1, e_isN2, e_isN3, e_isN4, e_isN5, e_isN6, e_isN7, e_ixT, e_ixL, e_ixO, e_ixB, e_ixSc, e_lenT, e_lenL, e_lenO, e_lenB, e_lenSc, e_lenS, e_tupT, e_tupL, e_tupO, e_tupB, e_lisT, e_lisL, e_lisO, e_lisB, e_min2, e_max2, e_any, e_all, e_sum, e_sorted, e_rev, e_sl, e_oN, e_isi, e_lc, e_wipe0, e_wipe1, e_iA, e_iAb, e_gAq1, e_gAq2, e_gAq3, e_gAqb1, e_gAqb2, e_gAqb3, e_gAqb4, e_no, e_cCh, e_cChI, e_aug, e_decT, e_decF, e_cDispS, e_cDT, e_cDK, e_cDisp1, e_storeA, e_stR1, e_stR2, e_stR3, e_sd1, e_keyD1, e_keyD2, e_keyTD, e_intsD, e_intsD0, e_borT, e_borT2, e_borK, e_borK2, e_argT, e_argT2, e_argK, e_argK2, e_nbT, e_nbK, e_putT, e_putK, e_gAt1, e_gAt2, e_gAt3, e_gAt4, e_gGetDK, e_gGetDT, e_gIxD, e_gInD, e_gNotInD, e_cGet1, e_cGet2, e_dk1, e_dk2, e_dk3, e_dk4, e_dt1, e_dt2, e_del, atI_zero, e_at1, e_at2, e_at3, e_at4, e_at5, e_at6, e_at7, e_at8, e_at9, e_atm, e_V, e_retV, e_unp, e_app, e_store, e_fzE, oS, rsO_some, Rs.bind_ok, Rs.bind_no, Rs.out_ok, Out.then_nx, Out.then_rt, Out.then_ct, Out.then_bk, fin_rt, fin_nx, List.getElem?_cons_zero, List.getElem?_cons_succ, List.set_cons_succ, List.set_cons_zero, List.length_cons, List.length_nil, Nat.reduceAdd, Nat.reduceLT, Nat.reduceLeDiff, Nat.reduceEqDiff, if_true, if_false, Bool.false_eq_true, Bool.not_true, Bool.not_false, and_self, true_and, and_true, List.map_cons, List.map_nil, Option.map_some, sh_int, sh_bool, sh_none, sh_tup, sh_lst, eqv_int, reduceIte, Option.bind_some, Option.bind_none, kitB_ll, kitB_lt, kitB_tt, kitB_tl, kitB_ii, tyD_list, tyD_int, Bool.true_and, Bool.false_and, Bool.and_true, Bool.and_false, Bool.or_true, Bool.true_or, Bool.false_or, Bool.or_false, Bool.and_self, Bool.or_self, e_cAK, List.append_nil, List.nil_append, List.cons_append, e_andB, e_orB, e_andR, e_orR, tyD_tuple, eqv_bool, eqv_none, tyD_bool, tyD_str, tyD_none, kitB_bb, kitB_nb, kitB_bi, kitB_ib, kitB_nl, kitB_nt, beq_self_eq_true, anyI, decide_eq_false hx, if_neg hx]
      rw [e]
      by_cases hx : x ∈ h
      · rw [if_pos hx, lp_nx, ih, List.all_cons, decide_eq_true hx, Bool.true_and]
      · rw [if_neg hx, lp_rt, List.all_cons, decide_eq_false hx, Bool.false_and, if_neg Bool.false_ne_true]
  obtain ⟨e3', e1⟩ := main (usAt us s) none
  show (sSeq _ _ [some (.d (encT us ts)), some (.d (.tuple (h.map .int))), some (.d (.int s)), none]).fin = _
  simp only [e_nil, e_seq, e_fz, e_bk, e_ct, e_ret, e_retN, e_drop, e_set, e_if, e_for, e_cC, e_c2, e_c1, e_cA, e_aN, e_aC, e_cB, e_asB, e_bNot, e_bAnd, e_bOr, e_vAnd, e_vOr, e_vNot, e_vIf, e_bYes, e_iL, e_iT, e_iLb, e_iR, e_gL1, e_gL2, e_gL3, e_gT, e_gLb1, e_gLb2, e_gLb3, e_gLb4, e_nb1, e_nb2, e_bor1, e_bor2, e_bor3, e_bor4, e_arg1, e_arg2, e_arg3, e_arg4, e_putd, e_puto, e_toD1, e_toD2, e_allD0, e_allD1, e_allD2, e_gTupl, e_gList, e_tgnm, e_tgtp, e_tg0, e_tg1, e_sq1, e_sq2, e_sq3, e_sq4, e_sq5, e_qv2, e_qv3, e_qv4, e_qv5, e_data1, e_data2, e_data3, e_okI, e_okB, e_i2, e_sub, e_mul, e_mod, e_div, e_pow, e_lt, e_le, e_gt, e_ge, e_neg, e_addI, e_addS, e_addT, e_addL1, e_addL2, e_addL3, e_addL4, e_addL5, e_addL6, e_addL7, e_addL8, e_addL9, e_eq, e_ne, e_in, e_notIn, e_inT, e_inT2, e_inL1, e_inL2, e_inL3, e_is, e_isNot, e_isN1, e_isN2, e_isN3, e_isN4, e_isN5, e_isN6, e_isN7, e_ixT, e_ixL, e_ixO, e_ixB, e_ixSc, e_lenT, e_lenL, e_lenO, e_lenB, e_lenSc, e_lenS, e_tupT, e_tupL, e_tupO, e_tupB, e_lisT, e_lisL, e_lisO, e_lisB, e_min2, e_max2, e_any, e_all, e_sum, e_sorted, e_rev, e_sl, e_oN, e_isi, e_lc, e_wipe0, e_wipe1, e_iA, e_iAb, e_gAq1, e_gAq2, e_gAq3, e_gAqb1, e_gAqb2, e_gAqb3, e_gAqb4, e_no, e_cCh, e_cChI, e_aug, e_decT, e_decF, e_cDispS, e_cDT, e_cDK, e_cDisp1, e_storeA, e_stR1, e_stR2, e_stR3, e_sd1, e_keyD1, e_keyD2, e_keyTD, e_intsD, e_intsD0, e_borT, e_borT2, e_borK, e_borK2, e_argT, e_argT2, e_argK, e_argK2, e_nbT, e_nbK, e_putT, e_putK, e_gAt1, e_gAt2, e_gAt3, e_gAt4, e_gGetDK, e_gGetDT, e_gIxD, e_gInD, e_gNotInD, e_cGet1, e_cGet2, e_dk1, e_dk2, e_dk3, e_dk4, e_dt1, e_dt2, e_del, atI_zero, e_at1, e_at2, e_at3, e_at4, e_at5, e_at6, e_at7, e_at8, e_at9, e_atm, e_V, e_retV, e_unp, e_app, e_store, e_fzE, oS, rsO_some, Rs.bind_ok, Rs.bind_no, Rs.out_ok, Out.then_nx, Out.then_rt, Out.then_ct, Out.then_bk, fin_rt, fin_nx, List.getElem?_cons_zero, List.getElem?_cons_succ, List.set_cons_succ, List.set_cons_zero, List.length_cons, List.length_nil, Nat.reduceAdd, Nat.reduceLT, Nat.reduceLeDiff, Nat.reduceEqDiff, if_true, if_false, Bool.false_eq_true, Bool.not_true, Bool.not_false, and_self, true_and, and_true, List.map_cons, List.map_nil, Option.map_some, sh_int, sh_bool, sh_none, sh_tup, sh_lst, eqv_int, reduceIte, Option.bind_some, Option.bind_none, kitB_ll, kitB_lt, kitB_tt, kitB_tl, kitB_ii, tyD_list, tyD_int, Bool.true_and, Bool.false_and, Bool.and_true, Bool.and_false, Bool.or_true, Bool.true_or, Bool.false_or, Bool.or_false, Bool.and_self, Bool.or_self, e_cAK, List.append_nil, List.nil_append, List.cons_append, e_andB, e_orB, e_andR, e_orR, tyD_tuple, eqv_bool, eqv_none, tyD_bool, tyD_str, tyD_none, kitB_bb, kitB_nb, kitB_bi, kitB_ib, kitB_nl, kitB_nt, beq_self_eq_true, hs, ha, e1]
  cases hc : canM us h s with
  | true =>
    have e : ((usAt us s).all fun u => decide (u ∈ h)) = true := hc
    rw [if_pos e]
    simp only [e_nil, e_seq, e_fz, e_bk, e_ct, e_ret, e_retN, e_drop, e_set, e_if, e_for, e_cC, e_c2, e_c1, e_cA, e_aN, e_aC, e_cB, e_asB, e_bNot, e_bAnd, e_bOr, e_vAnd, e_vOr, e_vNot, e_vIf, e_bYes, e_iL, e_iT, e_iLb, e_iR, e_gL1, e_gL2, e_gL3, e_gT, e_gLb1, e_gLb2, e_gLb3, e_gLb4, e_nb1, e_nb2, e_bor1, e_bor2, e_bor3, e_bor4, e_arg1, e_arg2, e_arg3, e_arg4, e_putd, e_puto, e_toD1, e_toD2, e_allD0, e_allD1, e_allD2, e_gTupl, e_gList, e_tgnm, e_tgtp, e_tg0, e_tg1, e_sq1, e_sq2, e_sq3, e_sq4, e_sq5, e_qv2, e_qv3, e_qv4, e_qv5, e_data1, e_data2, e_data3, e_okI, e_okB, e_i2, e_sub, e_mul, e_mod, e_div, e_pow, e_lt, e_le, e_gt, e_ge, e_neg, e_addI, e_addS, e_addT, e_addL1, e_addL2, e_addL3, e_addL4, e_addL5, e_addL6, e_addL7, e_addL8, e_addL9, e_eq, e_ne, e_in, e_notIn, e_inT, e_inT2, e_inL1, e_inL2, e_inL3, e_is, e_isNot, e_isN1, e_isN2, e_isN3, e_isN4, e_isN5, e_isN6, e_isN7, e_ixT, e_ixL, e_ixO, e_ixB, e_ixSc, e_lenT, e_lenL, e_lenO, e_lenB, e_lenSc, e_lenS, e_tupT, e_tupL, e_tupO, e_tupB, e_lisT, e_lisL, e_lisO, e_lisB, e_min2, e_max2, e_any, e_all, e_sum, e_sorted, e_rev, e_sl, e_oN, e_isi, e_lc, e_wipe0, e_wipe1, e_iA, e_iAb, e_gAq1, e_gAq2, e_gAq3, e_gAqb1, e_gAqb2, e_gAqb3, e_gAqb4, e_no, e_cCh, e_cChI, e_aug, e_decT, e_decF, e_cDispS, e_cDT, e_cDK, e_cDisp1, e_storeA, e_stR1, e_stR2, e_stR3, e_sd1, e_keyD1, e_keyD2, e_keyTD, e_intsD, e_intsD0, e_borT, e_borT2, e_borK, e_borK2, e_argT, e_argT2, e_argK, e_argK2, e_nbT, e_nbK, e_putT, e_putK, e_gAt1, e_gAt2, e_gAt3, e_gAt4, e_gGetDK, e_gGetDT, e_gIxD, e_gInD, e_gNotInD, e_cGet1, e_cGet2, e_dk1, e_dk2, e_dk3, e_dk4, e_dt1, e_dt2, e_del, atI_zero, e_at1, e_at2, e_at3, e_at4, e_at5, e_at6, e_at7, e_at8, e_at9, e_atm, e_V, e_retV, e_unp, e_app, e_store, e_fzE, oS, rsO_some, Rs.bind_ok, Rs.bind_no, Rs.out_ok, Out.then_nx, Out.then_rt, Out.then_ct, Out.then_bk, fin_rt, fin_nx, List.getElem?_cons_zero, List.getElem?_cons_succ, List.set_cons_succ, List.set_cons_zero, List.length_cons, List.length_nil, Nat.reduceAdd, Nat.reduceLT, Nat.reduceLeDiff, Nat.reduceEqDiff, if_true, if_false, Bool.false_eq_true, Bool.not_true, Bool.not_false, and_self, true_and, and_true, List.map_cons, List.map_nil, Option.map_some, sh_int, sh_bool, sh_none, sh_tup, sh_lst, eqv_int, reduceIte, Option.bind_some, Option.bind_none, kitB_ll, kitB_lt, kitB_tt, kitB_tl, kitB_ii, tyD_list, tyD_int, Bool.true_and, Bool.false_and, Bool.and_true, Bool.and_false, Bool.or_true, Bool.true_or, Bool.false_or, Bool.or_false, Bool.and_self, Bool.or_self, e_cAK, List.append_nil, List.nil_append, List.cons_append, e_andB, e_orB, e_andR, e_orR, tyD_tuple, eqv_bool, eqv_none, tyD_bool, tyD_str, tyD_none, kitB_bb, kitB_nb, kitB_bi, kitB_ib, kitB_nl, kitB_nt, beq_self_eq_true]
  | false =>
    have : ¬ ((usAt us s).all fun u => decide (u ∈ h)) = true := by
      have e : ((usAt us s).all fun u => decide (u ∈ h)) = false := hc
      rw [e]; exact Bool.false_ne_true
    rw [if_neg this]
    simp only [e_nil, e_seq, e_fz, e_bk, e_ct, e_ret, e_retN, e_drop, e_set, e_if, e_for, e_cC, e_c2, e_c1, e_cA, e_aN, e_aC, e_cB, e_asB, e_bNot, e_bAnd, e_bOr, e_vAnd, e_vOr, e_vNot, e_vIf, e_bYes, e_iL, e_iT, e_iLb, e_iR, e_gL1, e_gL2, e_gL3, e_gT, e_gLb1, e_gLb2, e_gLb3, e_gLb4, e_nb1, e_nb2, e_bor1, e_bor2, e_bor3, e_bor4, e_arg1, e_arg2, e_arg3, e_arg4, e_putd, e_puto, e_toD1, e_toD2, e_allD0, e_allD1, e_allD2, e_gTupl, e_gList, e_tgnm, e_tgtp, e_tg0, e_tg1, e_sq1, e_sq2, e_sq3, e_sq4, e_sq5, e_qv2, e_qv3, e_qv4, e_qv5, e_data1, e_data2, e_data3, e_okI, e_okB, e_i2, e_sub, e_mul, e_mod, e_div, e_pow, e_lt, e_le, e_gt, e_ge, e_neg, e_addI, e_addS, e_addT, e_addL1, e_addL2, e_addL3, e_addL4, e_addL5, e_addL6, e_addL7, e_addL8, e_addL9, e_eq, e_ne, e_in, e_notIn, e_inT, e_inT2, e_inL1, e_inL2, e_inL3, e_is, e_isNot, e_isN1, e_isN2, e_isN3, e_isN4, e_isN5, e_isN6, e_isN7, e_ixT, e_ixL, e_ixO, e_ixB, e_ixSc, e_lenT, e_lenL, e_lenO, e_lenB, e_lenSc, e_lenS, e_tupT, e_tupL, e_tupO, e_tupB, e_lisT, e_lisL, e_lisO, e_lisB, e_min2, e_max2, e_any, e_all, e_sum, e_sorted, e_rev, e_sl, e_oN, e_isi, e_lc, e_wipe0, e_wipe1, e_iA, e_iAb, e_gAq1, e_gAq2, e_gAq3, e_gAqb1, e_gAqb2, e_gAqb3, e_gAqb4, e_no, e_cCh, e_cChI, e_aug, e_decT, e_decF, e_cDispS, e_cDT, e_cDK, e_cDisp1, e_storeA, e_stR1, e_stR2, e_stR3, e_sd1, e_keyD1, e_keyD2, e_keyTD, e_intsD, e_intsD0, e_borT, e_borT2, e_borK, e_borK2, e_argT, e_argT2, e_argK, e_argK2, e_nbT, e_nbK, e_putT, e_putK, e_gAt1, e_gAt2, e_gAt3, e_gAt4, e_gGetDK, e_gGetDT, e_gIxD, e_gInD, e_gNotInD, e_cGet1, e_cGet2, e_dk1, e_dk2, e_dk3, e_dk4, e_dt1, e_dt2, e_del, atI_zero, e_at1, e_at2, e_at3, e_at4, e_at5, e_at6, e_at7, e_at8, e_at9, e_atm, e_V, e_retV, e_unp, e_app, e_store, e_fzE, oS, rsO_some, Rs.bind_ok, Rs.bind_no, Rs.out_ok, Out.then_nx, Out.then_rt, Out.then_ct, Out.then_bk, fin_rt, fin_nx, List.getElem?_cons_zero, List.getElem?_cons_succ, List.set_cons_succ, List.set_cons_zero, List.length_cons, List.length_nil, Nat.reduceAdd, Nat.reduceLT, Nat.reduceLeDiff, Nat.reduceEqDiff, if_true, if_false, Bool.false_eq_true, Bool.not_true, Bool.not_false, and_self, true_and, and_true, List.map_cons, List.map_nil, Option.map_some, sh_int, sh_bool, sh_none, sh_tup, sh_lst, eqv_int, reduceIte, Option.bind_some, Option.bind_none, kitB_ll, kitB_lt, kitB_tt, kitB_tl, kitB_ii, tyD_list, tyD_int, Bool.true_and, Bool.false_and, Bool.and_true, Bool.and_false, Bool.or_true, Bool.true_or, Bool.false_or, Bool.or_false, Bool.and_self, Bool.or_self, e_cAK, List.append_nil, List.nil_append, List.cons_append, e_andB, e_orB, e_andR, e_orR, tyD_tuple, eqv_bool, eqv_none, tyD_bool, tyD_str, tyD_none, kitB_bb, kitB_nb, kitB_bi, kitB_ib, kitB_nl, kitB_nt, beq_self_eq_true]
theorem law_moved_ok (h : List Int) (s : Int) (hl : h.length ≤ 1000) : F__law_moved [.d (.tuple (h.map .int)), .d (.int s)] = .ok (.d (.tuple ((movM h s).map .int))) := by
  show (sSeq _ _ [some (.d (.tuple (h.map .int))), some (.d (.int s)), none]).fin = _
  have hz : h.length ≤ 1000000 := by omega
  have hz2 : h.length ≤ 999999 := by omega
  have hc : lcF (.nm 2) (cB (c2 gNe (cV 2) (cV 1))) (cV 2) [some (.d (.tuple (h.map .int))), some (.d (.int s)), none] (h.map .int) = .ok ((h.filter fun x => decide (x ≠ s)).map .int) :=
    lc_ints 2 h _ (by simp) fun x _ => by
      simp only [List.set_cons_succ, List.set_cons_zero]
      simp only [e_nil, e_seq, e_fz, e_bk, e_ct, e_ret, e_retN, e_drop, e_set, e_if, e_for, e_cC, e_c2, e_c1, e_cA, e_aN, e_aC, e_cB, e_asB, e_bNot, e_bAnd, e_bOr, e_vAnd, e_vOr, e_vNot, e_vIf, e_bYes, e_iL, e_iT, e_iLb, e_iR, e_gL1, e_gL2, e_gL3, e_gT, e_gLb1, e_gLb2, e_gLb3, e_gLb4, e_nb1, e_nb2, e_bor1, e_bor2, e_bor3, e_bor4, e_arg1, e_arg2, e_arg3, e_arg4, e_putd, e_puto, e_toD1, e_toD2, e_allD0, e_allD1, e_allD2, e_gTupl, e_gList, e_tgnm, e_tgtp, e_tg0, e_tg1, e_sq1, e_sq2, e_sq3, e_sq4, e_sq5, e_qv2, e_qv3, e_qv4, e_qv5, e_data1, e_data2, e_data3, e_okI, e_okB, e_i2, e_sub, e_mul, e_mod, e_div, e_pow, e_lt, e_le, e_gt, e_ge, e_neg, e_addI, e_addS, e_addT, e_addL1, e_addL2, e_addL3, e_addL4, e_addL5, e_addL6, e_addL7, e_addL8, e_addL9, e_eq, e_ne, e_in, e_notIn, e_inT, e_inT2, e_inL1, e_inL2, e_inL3, e_is, e_isNot, e_isN1, e_isN2, e_isN3, e_isN4, e_isN5, e_isN6, e_isN7, e_ixT, e_ixL, e_ixO, e_ixB, e_ixSc, e_lenT, e_lenL, e_lenO, e_lenB, e_lenSc, e_lenS, e_tupT, e_tupL, e_tupO, e_tupB, e_lisT, e_lisL, e_lisO, e_lisB, e_min2, e_max2, e_any, e_all, e_sum, e_sorted, e_rev, e_sl, e_oN, e_isi, e_lc, e_wipe0, e_wipe1, e_iA, e_iAb, e_gAq1, e_gAq2, e_gAq3, e_gAqb1, e_gAqb2, e_gAqb3, e_gAqb4, e_no, e_cCh, e_cChI, e_aug, e_decT, e_decF, e_cDispS, e_cDT, e_cDK, e_cDisp1, e_storeA, e_stR1, e_stR2, e_stR3, e_sd1, e_keyD1, e_keyD2, e_keyTD, e_intsD, e_intsD0, e_borT, e_borT2, e_borK, e_borK2, e_argT, e_argT2, e_argK, e_argK2, e_nbT, e_nbK, e_putT, e_putK, e_gAt1, e_gAt2, e_gAt3, e_gAt4, e_gGetDK, e_gGetDT, e_gIxD, e_gInD, e_gNotInD, e_cGet1, e_cGet2, e_dk1, e_dk2, e_dk3, e_dk4, e_dt1, e_dt2, e_del, atI_zero, e_at1, e_at2, e_at3, e_at4, e_at5, e_at6, e_at7, e_at8, e_at9, e_atm, e_V, e_retV, e_unp, e_app, e_store, e_fzE, oS, rsO_some, Rs.bind_ok, Rs.bind_no, Rs.out_ok, Out.then_nx, Out.then_rt, Out.then_ct, Out.then_bk, fin_rt, fin_nx, List.getElem?_cons_zero, List.getElem?_cons_succ, List.set_cons_succ, List.set_cons_zero, List.length_cons, List.length_nil, Nat.reduceAdd, Nat.reduceLT, Nat.reduceLeDiff, Nat.reduceEqDiff, if_true, if_false, Bool.false_eq_true, Bool.not_true, Bool.not_false, and_self, true_and, and_true, List.map_cons, List.map_nil, Option.map_some, sh_int, sh_bool, sh_none, sh_tup, sh_lst, eqv_int, reduceIte, Option.bind_some, Option.bind_none, kitB_ll, kitB_lt, kitB_tt, kitB_tl, kitB_ii, tyD_list, tyD_int, Bool.true_and, Bool.false_and, Bool.and_true, Bool.and_false, Bool.or_true, Bool.true_or, Bool.false_or, Bool.or_false, Bool.and_self, Bool.or_self, e_cAK, List.append_nil, List.nil_append, List.cons_append, e_andB, e_orB, e_andR, e_orR, tyD_tuple, eqv_bool, eqv_none, tyD_bool, tyD_str, tyD_none, kitB_bb, kitB_nb, kitB_bi, kitB_ib, kitB_nl, kitB_nt, beq_self_eq_true, ne_int]
  have hm : (h.map PyData.int ++ [.int s]) = (h ++ [s]).map PyData.int := by simp
  by_cases hs : s ∈ h
  · have : movM h s = h.filter fun x => decide (x ≠ s) := if_pos hs
    rw [this]
    simp only [e_nil, e_seq, e_fz, e_bk, e_ct, e_ret, e_retN, e_drop, e_set, e_if, e_for, e_cC, e_c2, e_c1, e_cA, e_aN, e_aC, e_cB, e_asB, e_bNot, e_bAnd, e_bOr, e_vAnd, e_vOr, e_vNot, e_vIf, e_bYes, e_iL, e_iT, e_iLb, e_iR, e_gL1, e_gL2, e_gL3, e_gT, e_gLb1, e_gLb2, e_gLb3, e_gLb4, e_nb1, e_nb2, e_bor1, e_bor2, e_bor3, e_bor4, e_arg1, e_arg2, e_arg3, e_arg4, e_putd, e_puto, e_toD1, e_toD2, e_allD0, e_allD1, e_allD2, e_gTupl, e_gList, e_tgnm, e_tgtp, e_tg0, e_tg1, e_sq1, e_sq2, e_sq3, e_sq4, e_sq5, e_qv2, e_qv3, e_qv4, e_qv5, e_data1, e_data2, e_data3, e_okI, e_okB, e_i2, e_sub, e_mul, e_mod, e_div, e_pow, e_lt, e_le, e_gt, e_ge, e_neg, e_addI, e_addS, e_addT, e_addL1, e_addL2, e_addL3, e_addL4, e_addL5, e_addL6, e_addL7, e_addL8, e_addL9, e_eq, e_ne, e_in, e_notIn, e_inT, e_inT2, e_inL1, e_inL2, e_inL3, e_is, e_isNot, e_isN1, e_isN2, e_isN3, e_isN4, e_isN5, e_isN6, e_isN7, e_ixT, e_ixL, e_ixO, e_ixB, e_ixSc, e_lenT, e_lenL, e_lenO, e_lenB, e_lenSc, e_lenS, e_tupT, e_tupL, e_tupO, e_tupB, e_lisT, e_lisL, e_lisO, e_lisB, e_min2, e_max2, e_any, e_all, e_sum, e_sorted, e_rev, e_sl, e_oN, e_isi, e_lc, e_wipe0, e_wipe1, e_iA, e_iAb, e_gAq1, e_gAq2, e_gAq3, e_gAqb1, e_gAqb2, e_gAqb3, e_gAqb4, e_no, e_cCh, e_cChI, e_aug, e_decT, e_decF, e_cDispS, e_cDT, e_cDK, e_cDisp1, e_storeA, e_stR1, e_stR2, e_stR3, e_sd1, e_keyD1, e_keyD2, e_keyTD, e_intsD, e_intsD0, e_borT, e_borT2, e_borK, e_borK2, e_argT, e_argT2, e_argK, e_argK2, e_nbT, e_nbK, e_putT, e_putK, e_gAt1, e_gAt2, e_gAt3, e_gAt4, e_gGetDK, e_gGetDT, e_gIxD, e_gInD, e_gNotInD, e_cGet1, e_cGet2, e_dk1, e_dk2, e_dk3, e_dk4, e_dt1, e_dt2, e_del, atI_zero, e_at1, e_at2, e_at3, e_at4, e_at5, e_at6, e_at7, e_at8, e_at9, e_atm, e_V, e_retV, e_unp, e_app, e_store, e_fzE, oS, rsO_some, Rs.bind_ok, Rs.bind_no, Rs.out_ok, Out.then_nx, Out.then_rt, Out.then_ct, Out.then_bk, fin_rt, fin_nx, List.getElem?_cons_zero, List.getElem?_cons_succ, List.set_cons_succ, List.set_cons_zero, List.length_cons, List.length_nil, Nat.reduceAdd, Nat.reduceLT, Nat.reduceLeDiff, Nat.reduceEqDiff, if_true, if_false, Bool.false_eq_true, Bool.not_true, Bool.not_false, and_self, true_and, and_true, List.map_cons, List.map_nil, Option.map_some, sh_int, sh_bool, sh_none, sh_tup, sh_lst, eqv_int, reduceIte, Option.bind_some, Option.bind_none, kitB_ll, kitB_lt, kitB_tt, kitB_tl, kitB_ii, tyD_list, tyD_int, Bool.true_and, Bool.false_and, Bool.and_true, Bool.and_false, Bool.or_true, Bool.true_or, Bool.false_or, Bool.or_false, Bool.and_self, Bool.or_self, e_cAK, List.append_nil, List.nil_append, List.cons_append, e_andB, e_orB, e_andR, e_orR, tyD_tuple, eqv_bool, eqv_none, tyD_bool, tyD_str, tyD_none, kitB_bb, kitB_nb, kitB_bi, kitB_ib, kitB_nl, kitB_nt, beq_self_eq_true, anyI, decide_eq_true hs, List.length_map, if_pos hz, hc]
  · have : movM h s = isort (h ++ [s]) := if_neg hs
    rw [this]
    simp only [e_nil, e_seq, e_fz, e_bk, e_ct, e_ret, e_retN, e_drop, e_set, e_if, e_for, e_cC, e_c2, e_c1, e_cA, e_aN, e_aC, e_cB, e_asB, e_bNot, e_bAnd, e_bOr, e_vAnd, e_vOr, e_vNot, e_vIf, e_bYes, e_iL, e_iT, e_iLb, e_iR, e_gL1, e_gL2, e_gL3, e_gT, e_gLb1, e_gLb2, e_gLb3, e_gLb4, e_nb1, e_nb2, e_bor1, e_bor2, e_bor3, e_bor4, e_arg1, e_arg2, e_arg3, e_arg4, e_putd, e_puto, e_toD1, e_toD2, e_allD0, e_allD1, e_allD2, e_gTupl, e_gList, e_tgnm, e_tgtp, e_tg0, e_tg1, e_sq1, e_sq2, e_sq3, e_sq4, e_sq5, e_qv2, e_qv3, e_qv4, e_qv5, e_data1, e_data2, e_data3, e_okI, e_okB, e_i2, e_sub, e_mul, e_mod, e_div, e_pow, e_lt, e_le, e_gt, e_ge, e_neg, e_addI, e_addS, e_addT, e_addL1, e_addL2, e_addL3, e_addL4, e_addL5, e_addL6, e_addL7, e_addL8, e_addL9, e_eq, e_ne, e_in, e_notIn, e_inT, e_inT2, e_inL1, e_inL2, e_inL3, e_is, e_isNot, e_isN1, e_isN2, e_isN3, e_isN4, e_isN5, e_isN6, e_isN7, e_ixT, e_ixL, e_ixO, e_ixB, e_ixSc, e_lenT, e_lenL, e_lenO, e_lenB, e_lenSc, e_lenS, e_tupT, e_tupL, e_tupO, e_tupB, e_lisT, e_lisL, e_lisO, e_lisB, e_min2, e_max2, e_any, e_all, e_sum, e_sorted, e_rev, e_sl, e_oN, e_isi, e_lc, e_wipe0, e_wipe1, e_iA, e_iAb, e_gAq1, e_gAq2, e_gAq3, e_gAqb1, e_gAqb2, e_gAqb3, e_gAqb4, e_no, e_cCh, e_cChI, e_aug, e_decT, e_decF, e_cDispS, e_cDT, e_cDK, e_cDisp1, e_storeA, e_stR1, e_stR2, e_stR3, e_sd1, e_keyD1, e_keyD2, e_keyTD, e_intsD, e_intsD0, e_borT, e_borT2, e_borK, e_borK2, e_argT, e_argT2, e_argK, e_argK2, e_nbT, e_nbK, e_putT, e_putK, e_gAt1, e_gAt2, e_gAt3, e_gAt4, e_gGetDK, e_gGetDT, e_gIxD, e_gInD, e_gNotInD, e_cGet1, e_cGet2, e_dk1, e_dk2, e_dk3, e_dk4, e_dt1, e_dt2, e_del, atI_zero, e_at1, e_at2, e_at3, e_at4, e_at5, e_at6, e_at7, e_at8, e_at9, e_atm, e_V, e_retV, e_unp, e_app, e_store, e_fzE, oS, rsO_some, Rs.bind_ok, Rs.bind_no, Rs.out_ok, Out.then_nx, Out.then_rt, Out.then_ct, Out.then_bk, fin_rt, fin_nx, List.getElem?_cons_zero, List.getElem?_cons_succ, List.set_cons_succ, List.set_cons_zero, List.length_cons, List.length_nil, Nat.reduceAdd, Nat.reduceLT, Nat.reduceLeDiff, Nat.reduceEqDiff, if_true, if_false, Bool.false_eq_true, Bool.not_true, Bool.not_false, and_self, true_and, and_true, List.map_cons, List.map_nil, Option.map_some, sh_int, sh_bool, sh_none, sh_tup, sh_lst, eqv_int, reduceIte, Option.bind_some, Option.bind_none, kitB_ll, kitB_lt, kitB_tt, kitB_tl, kitB_ii, tyD_list, tyD_int, Bool.true_and, Bool.false_and, Bool.and_true, Bool.and_false, Bool.or_true, Bool.true_or, Bool.false_or, Bool.or_false, Bool.and_self, Bool.or_self, e_cAK, List.append_nil, List.nil_append, List.cons_append, e_andB, e_orB, e_andR, e_orR, tyD_tuple, eqv_bool, eqv_none, tyD_bool, tyD_str, tyD_none, kitB_bb, kitB_nb, kitB_bi, kitB_ib, kitB_nl, kitB_nt, beq_self_eq_true, anyI, decide_eq_false hs, List.length_map, if_pos hz2, hm, intsD_map]
theorem law_can_ok (us : List (List Int)) (h : List Int) (s : Int) (h0 : 0 ≤ s) (h1 : s < us.length) (hl : (usAt us s).length ≤ 1000000) : F__law_can [.d (.tuple (encU us)), .d (.tuple (h.map .int)), .d (.int s)] = .ok (.d (.bool (canM us h s))) := by
  have ha := encU_at us h0 h1
  have hc : lcF (.nm 3) bYes (c2 gIn (cV 3) (cV 1)) [some (.d (.tuple (encU us))), some (.d (.tuple (h.map .int))), some (.d (.int s)), none] ((usAt us s).map .int) = .ok (((usAt us s).map fun u => decide (u ∈ h)).map .bool) := by
    rw [lcF_map PyData.int (fun _ => true) (fun u => .bool (decide (u ∈ h))) (usAt us s) fun x _ => ⟨_, rfl, rfl, fun _ => ⟨.d (.bool (decide (x ∈ h))), by
      simp only [List.set_cons_succ, List.set_cons_zero]
      simp only [e_nil, e_seq, e_fz, e_bk, e_ct, e_ret, e_retN, e_drop, e_set, e_if, e_for, e_cC, e_c2, e_c1, e_cA, e_aN, e_aC, e_cB, e_asB, e_bNot, e_bAnd, e_bOr, e_vAnd, e_vOr, e_vNot, e_vIf, e_bYes, e_iL, e_iT, e_iLb, e_iR, e_gL1, e_gL2, e_gL3, e_gT, e_gLb1, e_gLb2, e_gLb3, e_gLb4, e_nb1, e_nb2, e_bor1, e_bor2, e_bor3, e_bor4, e_arg1, e_arg2, e_arg3, e_arg4, e_putd, e_puto, e_toD1, e_toD2, e_allD0, e_allD1, e_allD2, e_gTupl, e_gList, e_tgnm, e_tgtp, e_tg0, e_tg1, e_sq1, e_sq2, e_sq3, e_sq4, e_sq5, e_qv2, e_qv3, e_qv4, e_qv5, e_data1, e_data2, e_data3, e_okI, e_okB, e_i2, e_sub, e_mul, e_mod, e_div, e_pow, e_lt, e_le, e_gt, e_ge, e_neg, e_addI, e_addS, e_addT, e_addL1, e_addL2, e_addL3, e_addL4, e_addL5, e_addL6, e_addL7, e_addL8, e_addL9, e_eq, e_ne, e_in, e_notIn, e_inT, e_inT2, e_inL1, e_inL2, e_inL3, e_is, e_isNot, e_isN1, e_isN2, e_isN3, e_isN4, e_isN5, e_isN6, e_isN7, e_ixT, e_ixL, e_ixO, e_ixB, e_ixSc, e_lenT, e_lenL, e_lenO, e_lenB, e_lenSc, e_lenS, e_tupT, e_tupL, e_tupO, e_tupB, e_lisT, e_lisL, e_lisO, e_lisB, e_min2, e_max2, e_any, e_all, e_sum, e_sorted, e_rev, e_sl, e_oN, e_isi, e_lc, e_wipe0, e_wipe1, e_iA, e_iAb, e_gAq1, e_gAq2, e_gAq3, e_gAqb1, e_gAqb2, e_gAqb3, e_gAqb4, e_no, e_cCh, e_cChI, e_aug, e_decT, e_decF, e_cDispS, e_cDT, e_cDK, e_cDisp1, e_storeA, e_stR1, e_stR2, e_stR3, e_sd1, e_keyD1, e_keyD2, e_keyTD, e_intsD, e_intsD0, e_borT, e_borT2, e_borK, e_borK2, e_argT, e_argT2, e_argK, e_argK2, e_nbT, e_nbK, e_putT, e_putK, e_gAt1, e_gAt2, e_gAt3, e_gAt4, e_gGetDK, e_gGetDT, e_gIxD, e_gInD, e_gNotInD, e_cGet1, e_cGet2, e_dk1, e_dk2, e_dk3, e_dk4, e_dt1, e_dt2, e_del, atI_zero, e_at1, e_at2, e_at3, e_at4, e_at5, e_at6, e_at7, e_at8, e_at9, e_atm, e_V, e_retV, e_unp, e_app, e_store, e_fzE, oS, rsO_some, Rs.bind_ok, Rs.bind_no, Rs.out_ok, Out.then_nx, Out.then_rt, Out.then_ct, Out.then_bk, fin_rt, fin_nx, List.getElem?_cons_zero, List.getElem?_cons_succ, List.set_cons_succ, List.set_cons_zero, List.length_cons, List.length_nil, Nat.reduceAdd, Nat.reduceLT, Nat.reduceLeDiff, Nat.reduceEqDiff, if_true, if_false, Bool.false_eq_true, Bool.not_true, Bool.not_false, and_self, true_and, and_true, List.map_cons, List.map_nil, Option.map_some, sh_int, sh_bool, sh_none, sh_tup, sh_lst, eqv_int, reduceIte, Option.bind_some, Option.bind_none, kitB_ll, kitB_lt, kitB_tt, kitB_tl, kitB_ii, tyD_list, tyD_int, Bool.true_and, Bool.false_and, Bool.and_true, Bool.and_false, Bool.or_true, Bool.true_or, Bool.false_or, Bool.or_false, Bool.and_self, Bool.or_self, e_cAK, List.append_nil, List.nil_append, List.cons_append, e_andB, e_orB, e_andR, e_orR, tyD_tuple, eqv_bool, eqv_none, tyD_bool, tyD_str, tyD_none, kitB_bb, kitB_nb, kitB_bi, kitB_ib, kitB_nl, kitB_nt, beq_self_eq_true, anyI], rfl⟩⟩]
    rw [List.filter_eq_self.mpr (fun _ _ => rfl), List.map_map]
    rfl
  show (sRet _ [some (.d (.tuple (encU us))), some (.d (.tuple (h.map .int))), some (.d (.int s)), none]).fin = _
  simp only [e_nil, e_seq, e_fz, e_bk, e_ct, e_ret, e_retN, e_drop, e_set, e_if, e_for, e_cC, e_c2, e_c1, e_cA, e_aN, e_aC, e_cB, e_asB, e_bNot, e_bAnd, e_bOr, e_vAnd, e_vOr, e_vNot, e_vIf, e_bYes, e_iL, e_iT, e_iLb, e_iR, e_gL1, e_gL2, e_gL3, e_gT, e_gLb1, e_gLb2, e_gLb3, e_gLb4, e_nb1, e_nb2, e_bor1, e_bor2, e_bor3, e_bor4, e_arg1, e_arg2, e_arg3, e_arg4, e_putd, e_puto, e_toD1, e_toD2, e_allD0, e_allD1, e_allD2, e_gTupl, e_gList, e_tgnm, e_tgtp, e_tg0, e_tg1, e_sq1, e_sq2, e_sq3, e_sq4, e_sq5, e_qv2, e_qv3, e_qv4, e_qv5, e_data1, e_data2, e_data3, e_okI, e_okB, e_i2, e_sub, e_mul, e_mod, e_div, e_pow, e_lt, e_le, e_gt, e_ge, e_neg, e_addI, e_addS, e_addT, e_addL1, e_addL2, e_addL3, e_addL4, e_addL5, e_addL6, e_addL7, e_addL8, e_addL9, e_eq, e_ne, e_in, e_notIn, e_inT, e_inT2, e_inL1, e_inL2, e_inL3, e_is, e_isNot, e_isN1, e_isN2, e_isN3, e_isN4, e_isN5, e_isN6, e_isN7, e_ixT, e_ixL, e_ixO, e_ixB, e_ixSc, e_lenT, e_lenL, e_lenO, e_lenB, e_lenSc, e_lenS, e_tupT, e_tupL, e_tupO, e_tupB, e_lisT, e_lisL, e_lisO, e_lisB, e_min2, e_max2, e_any, e_all, e_sum, e_sorted, e_rev, e_sl, e_oN, e_isi, e_lc, e_wipe0, e_wipe1, e_iA, e_iAb, e_gAq1, e_gAq2, e_gAq3, e_gAqb1, e_gAqb2, e_gAqb3, e_gAqb4, e_no, e_cCh, e_cChI, e_aug, e_decT, e_decF, e_cDispS, e_cDT, e_cDK, e_cDisp1, e_storeA, e_stR1, e_stR2, e_stR3, e_sd1, e_keyD1, e_keyD2, e_keyTD, e_intsD, e_intsD0, e_borT, e_borT2, e_borK, e_borK2, e_argT, e_argT2, e_argK, e_argK2, e_nbT, e_nbK, e_putT, e_putK, e_gAt1, e_gAt2, e_gAt3, e_gAt4, e_gGetDK, e_gGetDT, e_gIxD, e_gInD, e_gNotInD, e_cGet1, e_cGet2, e_dk1, e_dk2, e_dk3, e_dk4, e_dt1, e_dt2, e_del, atI_zero, e_at1, e_at2, e_at3, e_at4, e_at5, e_at6, e_at7, e_at8, e_at9, e_atm, e_V, e_retV, e_unp, e_app, e_store, e_fzE, oS, rsO_some, Rs.bind_ok, Rs.bind_no, Rs.out_ok, Out.then_nx, Out.then_rt, Out.then_ct, Out.then_bk, fin_rt, fin_nx, List.getElem?_cons_zero, List.getElem?_cons_succ, List.set_cons_succ, List.set_cons_zero, List.length_cons, List.length_nil, Nat.reduceAdd, Nat.reduceLT, Nat.reduceLeDiff, Nat.reduceEqDiff, if_true, if_false, Bool.false_eq_true, Bool.not_true, Bool.not_false, and_self, true_and, and_true, List.map_cons, List.map_nil, Option.map_some, sh_int, sh_bool, sh_none, sh_tup, sh_lst, eqv_int, reduceIte, Option.bind_some, Option.bind_none, kitB_ll, kitB_lt, kitB_tt, kitB_tl, kitB_ii, tyD_list, tyD_int, Bool.true_and, Bool.false_and, Bool.and_true, Bool.and_false, Bool.or_true, Bool.true_or, Bool.false_or, Bool.or_false, Bool.and_self, Bool.or_self, e_cAK, List.append_nil, List.nil_append, List.cons_append, e_andB, e_orB, e_andR, e_orR, tyD_tuple, eqv_bool, eqv_none, tyD_bool, tyD_str, tyD_none, kitB_bb, kitB_nb, kitB_bi, kitB_ib, kitB_nl, kitB_nt, beq_self_eq_true, ha, List.length_map, if_pos hl, hc, boolsD_map]
  rw [List.all_map]
  rfl
/-! ### plans walked -/
def confsM : List Int → List Int → List (List Int)
  | h, [] => [h]
  | h, s :: r => h :: confsM (movM h s) r
def endM (h p : List Int) : List Int := p.foldl movM h
def goodM (us : List (List Int)) : List Int → List Int → Prop
  | _, [] => True
  | h, s :: r => (0 ≤ s ∧ s < us.length ∧ canM us h s = true) ∧ goodM us (movM h s) r
theorem confs_snoc (s : Int) : ∀ (p h : List Int), confsM h (p ++ [s]) = confsM h p ++ [movM (endM h p) s]
  | [], h => rfl
  | x :: p, h => by
    show h :: confsM (movM h x) (p ++ [s]) = h :: (confsM (movM h x) p ++ [movM (endM (movM h x) p) s])
    rw [confs_snoc s p (movM h x)]
theorem good_snoc (us : List (List Int)) (s : Int) : ∀ (p h : List Int), goodM us h p → (0 ≤ s ∧ s < us.length ∧ canM us (endM h p) s = true) → goodM us h (p ++ [s])
  | [], h, _, g => ⟨g, trivial⟩
  | x :: p, h, k, g => ⟨k.1, good_snoc us s p (movM h x) k.2 g⟩
theorem end_snoc (h p : List Int) (s : Int) : endM h (p ++ [s]) = movM (endM h p) s := by
  unfold endM
  rw [List.foldl_append]
  rfl
theorem confs_len : ∀ (p h : List Int), (confsM h p).length = p.length + 1
  | [], h => rfl
  | x :: p, h => by
    show (confsM (movM h x) p).length + 1 = _
    rw [confs_len p]; rfl
theorem confs_bound : ∀ (p h : List Int) (c : List Int), c ∈ confsM h p → c.length ≤ h.length + p.length
  | [], h, c, hc => by
    rw [List.mem_singleton.mp hc]; simp
  | x :: p, h, c, hc => by
    have hm := movM_len h x
    rcases List.mem_cons.mp hc with rfl | hc
    · simp
    · have := confs_bound p (movM h x) c hc
      simp
      omega
theorem confs_last : ∀ (p h : List Int), ∃ xs, confsM h p = xs ++ [endM h p]
  | [], h => ⟨[], rfl⟩
  | x :: p, h => by
    obtain ⟨xs, e⟩ := confs_last p (movM h x)
    exact ⟨h :: xs, by show h :: confsM (movM h x) p = _; rw [e]; rfl⟩
theorem e_max1 (r : RV) : gMax1 [r] = (rsO r.qv).bind fun xs => (rsO (intsD xs)).bind fun bs => (rsO (maxL bs)).bind okI := rfl
/-! ### strictly ascending configurations; moves taken back -/
def Up (h : List Int) : Prop := h.Pairwise (· < ·)
theorem Up.nodup {h : List Int} (u : Up h) : h.Nodup := List.Pairwise.imp (fun hab => by omega) u
theorem Up.le {h : List Int} (u : Up h) : h.Pairwise (· ≤ ·) := List.Pairwise.imp (fun hab => by omega) u
theorem up_of {h : List Int} (n : h.Nodup) (s : h.Pairwise (· ≤ ·)) : Up h := by
  have := List.Pairwise.and n s
  exact List.Pairwise.imp (fun hab => by have := hab.1; have := hab.2; omega) this
theorem mem_movM {h : List Int} {s x : Int} : x ∈ movM h s ↔ if s ∈ h then (x ∈ h ∧ x ≠ s) else (x ∈ h ∨ x = s) := by
  unfold movM
  split
  · simp
  · rw [(isort_perm _).mem_iff]; simp
theorem movM_up {h : List Int} (u : Up h) (s : Int) : Up (movM h s) := by
  unfold movM
  split
  · exact List.Pairwise.filter _ u
  · rename_i hs
    refine up_of ?_ (isort_sorted _)
    rw [(isort_perm _).nodup_iff, List.nodup_append]
    refine ⟨u.nodup, by simp, fun a ha b hb e => hs ?_⟩
    rw [List.mem_singleton.mp hb] at e
    exact e ▸ ha
theorem Up.ext {h k : List Int} (u : Up h) (v : Up k) (e : ∀ x, x ∈ h ↔ x ∈ k) : h = k :=
  sorted_uniq ((List.perm_ext_iff_of_nodup u.nodup v.nodup).mpr e) u.le v.le
theorem mem_out {h : List Int} {s x : Int} (hs : s ∈ h) : x ∈ movM h s ↔ x ∈ h ∧ x ≠ s := by rw [mem_movM, if_pos hs]
theorem mem_in {h : List Int} {s x : Int} (hs : s ∉ h) : x ∈ movM h s ↔ x ∈ h ∨ x = s := by rw [mem_movM, if_neg hs]
theorem movM_back {h : List Int} (u : Up h) (s : Int) : movM (movM h s) s = h := by
  refine (movM_up (movM_up u s) s).ext u fun x => ?_
  by_cases hs : s ∈ h
  · have h1 : s ∉ movM h s := fun z => ((mem_out hs).mp z).2 rfl
    rw [mem_in h1, mem_out hs]
    constructor
    · rintro (z | rfl)
      · exact z.1
      · exact hs
    · intro z
      by_cases e : x = s
      · exact .inr e
      · exact .inl ⟨z, e⟩
  · have h1 : s ∈ movM h s := (mem_in hs).mpr (.inr rfl)
    rw [mem_out h1, mem_in hs]
    constructor
    · rintro ⟨z | z, w⟩
      · exact z
      · exact absurd z w
    · exact fun z => ⟨.inl z, fun e => hs (e ▸ z)⟩
theorem can_back {most : Nat} {us : List (List Int)} {ts : List Int} (wf : WF most us ts) {h : List Int} {s : Int} (s0 : 0 ≤ s) (s1 : s < us.length) : canM us (movM h s) s = canM us h s := by
  have key : ∀ x ∈ usAt us s, x ≠ s := fun x hx => by
    have hs : s.toNat < us.length := by omega
    have := wf.use s.toNat us[s.toNat] (List.getElem?_eq_getElem hs)
    have e : usAt us s = us[s.toNat] := by simp [usAt, hs]
    rw [e] at hx
    have := this.hi x hx
    omega
  have mm : ∀ x ∈ usAt us s, (x ∈ movM h s ↔ x ∈ h) := fun x hx => by
    have hk := key x hx
    by_cases hs : s ∈ h
    · rw [mem_out hs]; exact ⟨fun z => z.1, fun z => ⟨z, hk⟩⟩
    · rw [mem_in hs]; exact ⟨fun z => z.resolve_right hk, .inl⟩
  unfold canM
  rw [Bool.eq_iff_iff, List.all_eq_true, List.all_eq_true]
  exact ⟨fun z x hx => by have := z x hx; simp only [decide_eq_true_eq] at this ⊢; exact (mm x hx).mp this, fun z x hx => by have := z x hx; simp only [decide_eq_true_eq] at this ⊢; exact (mm x hx).mpr this⟩
theorem up_end {h : List Int} (u : Up h) : ∀ p : List Int, Up (endM h p) := by
  intro p
  induction p generalizing h with
  | nil => exact u
  | cons s p ih => exact ih (movM_up u s)
theorem rev_walk {most : Nat} {us : List (List Int)} {ts : List Int} (wf : WF most us ts) : ∀ (p h : List Int), Up h → goodM us h p → goodM us (endM h p) p.reverse ∧ confsM (endM h p) p.reverse = (confsM h p).reverse ∧ endM (endM h p) p.reverse = h
  | [], h, _, _ => ⟨trivial, rfl, rfl⟩
  | s :: p, h, u, g => by
    obtain ⟨i1, i2, i3⟩ := rev_walk wf p (movM h s) (movM_up u s) g.2
    have e : endM h (s :: p) = endM (movM h s) p := rfl
    rw [e, List.reverse_cons]
    refine ⟨good_snoc us s _ _ i1 ?_, ?_, ?_⟩
    · rw [i3, can_back wf g.1.1 g.1.2.1]; exact g.1
    · rw [confs_snoc, i2, i3, movM_back u]
      show _ = (h :: confsM (movM h s) p).reverse
      rw [List.reverse_cons]
    · rw [end_snoc, i3, movM_back u]
theorem movM_parity {h : List Int} (u : Up h) (s : Int) : (movM h s).length % 2 = (h.length + 1) % 2 := by
  unfold movM
  split
  · rename_i hs
    have e : (h.filter fun x => decide (x ≠ s)) = h.erase s := by
      rw [u.nodup.erase_eq_filter]
      congr 1
      funext x
      simp [bne]
      rfl
    rw [e, List.length_erase_of_mem hs]
    have := List.length_pos_of_mem hs
    omega
  · rw [(isort_perm _).length_eq]; simp
theorem end_parity : ∀ (p h : List Int), Up h → (endM h p).length % 2 = (h.length + p.length) % 2
  | [], h, _ => rfl
  | s :: p, h, u => by
    have := end_parity p (movM h s) (movM_up u s)
    have := movM_parity u s
    show (endM (movM h s) p).length % 2 = _
    simp
    omega
theorem wf_use {most : Nat} {us : List (List Int)} {ts : List Int} (wf : WF most us ts) (hm : most ≤ 8) (s : Int) : (usAt us s).length ≤ 1000000 := by
  unfold usAt
  by_cases h : s.toNat < us.length
  · have := (wf.use s.toNat us[s.toNat] (List.getElem?_eq_getElem h)).len
    have := wf.len
    simp [h]
    omega
  · simp [h]
/-! ### rows in the order of their length, then from the left -/
section
variable {L : Type} (lt : L → L → Prop)
def lexL : List L → List L → Prop
  | x :: xs, y :: ys => lt x y ∨ (x = y ∧ lexL xs ys)
  | _, _ => False
def SL (p q : List L) : Prop := p.length < q.length ∨ (p.length = q.length ∧ lexL lt p q)
variable {lt}
theorem lexL_trans (tr : ∀ a b c, lt a b → lt b c → lt a c) : ∀ {p q r : List L}, lexL lt p q → lexL lt q r → lexL lt p r
  | [], _, _, h, _ => by cases h
  | _ :: _, [], _, h, _ => by cases h
  | _ :: _, _ :: _, [], _, h => by cases h
  | x :: xs, y :: ys, z :: zs, h, k => by
    rcases h with h | ⟨rfl, h⟩
    · rcases k with k | ⟨rfl, k⟩
      · exact .inl (tr _ _ _ h k)
      · exact .inl h
    · rcases k with k | ⟨rfl, k⟩
      · exact .inl k
      · exact .inr ⟨rfl, lexL_trans tr h k⟩
theorem SL.trans (tr : ∀ a b c, lt a b → lt b c → lt a c) {p q r : List L} (h : SL lt p q) (k : SL lt q r) : SL lt p r := by
  rcases h with h | ⟨h1, h2⟩
  · rcases k with k | ⟨k1, k2⟩
    · exact .inl (by omega)
    · exact .inl (by omega)
  · rcases k with k | ⟨k1, k2⟩
    · exact .inl (by omega)
    · exact .inr ⟨by omega, lexL_trans tr h2 k2⟩
theorem lexL_app : ∀ {p q : List L} (a b : List L), lexL lt p q → lexL lt (p ++ a) (q ++ b)
  | [], _, _, _, h => by cases h
  | _ :: _, [], _, _, h => by cases h
  | x :: xs, y :: ys, a, b, h => by
    rcases h with h | ⟨rfl, h⟩
    · exact .inl h
    · exact .inr ⟨rfl, lexL_app a b h⟩
theorem lexL_last {x y : L} (h : lt x y) : ∀ p : List L, lexL lt (p ++ [x]) (p ++ [y])
  | [] => .inl h
  | z :: p => .inr ⟨rfl, lexL_last h p⟩
theorem SL.snoc {p q : List L} (h : SL lt p q) (x y : L) : SL lt (p ++ [x]) (q ++ [y]) := by
  rcases h with h | ⟨h1, h2⟩
  · exact .inl (by simp; omega)
  · exact .inr ⟨by simp; omega, lexL_app _ _ h2⟩
theorem SL.last {x y : L} (h : lt x y) (p : List L) : SL lt (p ++ [x]) (p ++ [y]) := .inr ⟨by simp, lexL_last h p⟩
theorem SL.nil (p : List L) (x : L) : SL lt [] (p ++ [x]) := .inl (by simp)
theorem lexL_irr (ir : ∀ a, ¬ lt a a) : ∀ p : List L, ¬ lexL lt p p
  | [], h => h
  | x :: p, h => by
    rcases h with h | ⟨_, h⟩
    · exact ir x h
    · exact lexL_irr ir p h
theorem SL.irr (ir : ∀ a, ¬ lt a a) (p : List L) (h : SL lt p p) : False := by
  rcases h with h | ⟨_, h⟩
  · omega
  · exact lexL_irr ir p h
theorem SL.len {p q : List L} (h : p = q ∨ SL lt p q) : p.length ≤ q.length := by
  rcases h with rfl | h | h
  · exact Nat.le_refl _
  · omega
  · omega
end
/-! ### searching level by level -/
section
variable {C L : Type} [DecidableEq C]
def tget (T : List (C × List L)) (c : C) : Option (List L) := (T.find? fun p => decide (p.1 = c)).map (·.2)
theorem tget_cons (e : C × List L) (T : List (C × List L)) (c : C) : tget (e :: T) c = if e.1 = c then some e.2 else tget T c := by
  unfold tget
  by_cases h : e.1 = c <;> simp [List.find?_cons, h]
theorem tget_app (T U : List (C × List L)) (c : C) : tget (T ++ U) c = (tget T c).or (tget U c) := by
  induction T with
  | nil => rfl
  | cons e T ih => rw [List.cons_append, tget_cons, tget_cons, ih]; split <;> rfl
theorem tget_mem {T : List (C × List L)} {c : C} {p : List L} (h : tget T c = some p) : (c, p) ∈ T := by
  induction T with
  | nil => cases h
  | cons e T ih =>
    rw [tget_cons] at h
    split at h
    · rename_i he
      cases h; subst he; exact List.mem_cons_self
    · exact List.mem_cons_of_mem _ (ih h)
theorem tget_none {T : List (C × List L)} {c : C} (h : tget T c = none) : ∀ e ∈ T, e.1 ≠ c := by
  induction T with
  | nil => simp
  | cons e T ih =>
    rw [tget_cons] at h
    split at h
    · cases h
    · rename_i he
      intro f hf
      rcases List.mem_cons.mp hf with rfl | hf
      · exact he
      · exact ih h f hf
theorem tget_of {T : List (C × List L)} {c : C} {p : List L} (n : (T.map (·.1)).Nodup) (h : (c, p) ∈ T) : tget T c = some p := by
  induction T with
  | nil => cases h
  | cons e T ih =>
    rw [List.map_cons, List.nodup_cons] at n
    rw [tget_cons]
    rcases List.mem_cons.mp h with rfl | h
    · rw [if_pos rfl]
    · rw [if_neg fun z => n.1 (by rw [z]; exact List.mem_map.mpr ⟨_, h, rfl⟩)]
      exact ih n.2 h
theorem tget_absent {T : List (C × List L)} {c : C} (h : ∀ e ∈ T, e.1 ≠ c) : tget T c = none := by
  cases e : tget T c with
  | none => rfl
  | some p => exact absurd rfl (h _ (tget_mem e))
variable (succ : C → List (L × C))
def addB (p : List L) (T : List (C × List L)) (e : L × C) : List (C × List L) := if (tget T e.2).isSome = true then T else T ++ [(e.2, p ++ [e.1])]
def expB (T : List (C × List L)) (c : C) (p : List L) : List (C × List L) := (succ c).foldl (addB p) T
def runB : Nat → List (C × List L) → Nat → List (C × List L)
  | 0, T, _ => T
  | k + 1, T, i => match T[i]? with
    | none => T
    | some e => runB k (expB succ T e.1 e.2) (i + 1)
def seekB (g : C) : Nat → List (C × List L) → Nat → Option (List L)
  | 0, _, _ => none
  | k + 1, T, i => match T[i]? with
    | none => none
    | some e => if e.1 = g then some e.2 else seekB g k (expB succ T e.1 e.2) (i + 1)
inductive Path (c0 : C) : List L → C → Prop
  | nil : Path c0 [] c0
  | snoc {p : List L} {c d : C} {l : L} : Path c0 p c → (l, d) ∈ succ c → Path c0 (p ++ [l]) d
variable {succ}
theorem addB_pre (p : List L) (T : List (C × List L)) (e : L × C) : T <+: addB p T e := by
  unfold addB
  split
  · exact List.prefix_refl _
  · exact List.prefix_append _ _
theorem fold_pre (p : List L) : ∀ (es : List (L × C)) (T : List (C × List L)), T <+: es.foldl (addB p) T
  | [], T => List.prefix_refl _
  | e :: es, T => (addB_pre p T e).trans (fold_pre p es _)
theorem expB_pre (T : List (C × List L)) (c : C) (p : List L) : T <+: expB succ T c p := fold_pre p _ T
theorem runB_pre : ∀ (k : Nat) (T : List (C × List L)) (i : Nat), T <+: runB succ k T i
  | 0, T, i => List.prefix_refl _
  | k + 1, T, i => by
    unfold runB
    split
    · exact List.prefix_refl _
    · exact (expB_pre T _ _).trans (runB_pre k _ _)
theorem addB_nodup {p : List L} {T : List (C × List L)} {e : L × C} (n : (T.map (·.1)).Nodup) : ((addB p T e).map (·.1)).Nodup := by
  unfold addB
  split
  · exact n
  · rename_i h
    rw [List.map_append, List.nodup_append]
    refine ⟨n, by simp, fun a ha b hb => ?_⟩
    obtain ⟨x, hx, rfl⟩ := List.mem_map.mp ha
    simp at hb
    subst hb
    have : tget T e.2 = none := by
      cases z : tget T e.2 with
      | none => rfl
      | some q => rw [z] at h; simp at h
    exact tget_none this x hx
theorem fold_nodup {p : List L} : ∀ (es : List (L × C)) {T : List (C × List L)}, (T.map (·.1)).Nodup → ((es.foldl (addB p) T).map (·.1)).Nodup
  | [], _, n => n
  | e :: es, _, n => fold_nodup es (addB_nodup n)
theorem tget_pre {T U : List (C × List L)} {c : C} {p : List L} (h : T <+: U) (e : tget T c = some p) : tget U c = some p := by
  obtain ⟨V, rfl⟩ := h
  rw [tget_app, e]
  rfl
/-- the plan that is found is the one in the whole table -/
theorem seek_run (g : C) : ∀ (k : Nat) (T : List (C × List L)) (i : Nat), (T.map (·.1)).Nodup → (∀ j e, j < i → T[j]? = some e → e.1 ≠ g) → (runB succ k T i).length < k + i → i ≤ T.length → seekB succ g k T i = tget (runB succ k T i) g
  | 0, T, i, n, hb, hl, hi => by
    unfold runB at hl
    omega
  | k + 1, T, i, n, hb, hl, hi => by
    unfold seekB runB
    cases e : T[i]? with
    | none =>
      have hge : T.length ≤ i := List.getElem?_eq_none_iff.mp e
      simp only
      refine (tget_absent fun f hf => ?_).symm
      obtain ⟨j, hj⟩ := List.mem_iff_getElem?.mp hf
      exact hb j f (by have := (List.getElem?_eq_some_iff.mp hj).1; omega) hj
    | some f =>
      simp only
      by_cases c : f.1 = g
      · rw [if_pos c]
        refine (tget_pre ((expB_pre (succ := succ) T f.1 f.2).trans (runB_pre k _ _)) (tget_of n ?_)).symm
        have := List.mem_of_getElem? e
        rw [← c]; exact this
      · rw [if_neg c]
        unfold runB at hl
        rw [e] at hl
        simp only at hl
        have hil := (List.getElem?_eq_some_iff.mp e).1
        have hp := expB_pre (succ := succ) T f.1 f.2
        refine seek_run g k _ (i + 1) (fold_nodup _ n) (fun j e' hj he' => ?_) (by omega) (by have := hp.length_le; omega)
        obtain ⟨V, hV⟩ := hp
        have hj2 : j < T.length := by omega
        rw [← hV, List.getElem?_append_left hj2] at he'
        by_cases hji : j < i
        · exact hb j e' hji he'
        · have : j = i := by omega
          subst this
          rw [e] at he'
          cases he'
          exact c
/-! the table is right -/
variable (lt : L → L → Prop)
structure Mid (c0 : C) (T : List (C × List L)) : Prop where
  nodup : (T.map (·.1)).Nodup
  sound : ∀ e ∈ T, Path succ c0 e.2 e.1
  sorted : (T.map (·.2)).Pairwise (SL lt)
structure Bfs (c0 : C) (T : List (C × List L)) (i : Nat) : Prop where
  mid : Mid (succ := succ) lt c0 T
  head : (c0, []) ∈ T
  closed : ∀ j e, j < i → T[j]? = some e → ∀ x ∈ succ e.1, ∃ q, tget T x.2 = some q ∧ (q = e.2 ++ [x.1] ∨ SL lt q (e.2 ++ [x.1]))
  bound : ∀ e ∈ T, e.2 = [] ∨ ∃ q l, e.2 = q ++ [l] ∧ ∃ j f, j < i ∧ T[j]? = some f ∧ f.2 = q
variable {lt}
structure Exp (c0 : C) (p : List L) (T : List (C × List L)) (done : List (L × C)) : Prop where
  mid : Mid (succ := succ) lt c0 T
  bound : ∀ e ∈ T, e.2 = [] ∨ ∃ q l, e.2 = q ++ [l] ∧ (SL lt q p ∨ (q = p ∧ ∃ d, (l, d) ∈ done))
  closed : ∀ x ∈ done, ∃ q, tget T x.2 = some q ∧ (q = p ++ [x.1] ∨ SL lt q (p ++ [x.1]))
theorem Exp.below {c0 : C} {p : List L} {T : List (C × List L)} {done : List (L × C)} (h : Exp (succ := succ) (lt := lt) c0 p T done) {x : L × C} (hx : ∀ y ∈ done, lt y.1 x.1) : ∀ e ∈ T, SL lt e.2 (p ++ [x.1]) := by
  intro e he
  rcases h.bound e he with z | ⟨q, l, z, w | ⟨rfl, d, hd⟩⟩
  · rw [z]; exact SL.nil _ _
  · rw [z]; exact w.snoc _ _
  · rw [z]; exact SL.last (hx _ hd) _
theorem Exp.step {c0 : C} {p : List L} {T : List (C × List L)} {done : List (L × C)} {c : C} (hp : Path succ c0 p c) (h : Exp (succ := succ) (lt := lt) c0 p T done) {x : L × C} (hs : x ∈ succ c) (hx : ∀ y ∈ done, lt y.1 x.1) :
    Exp (succ := succ) (lt := lt) c0 p (addB p T x) (done ++ [x]) := by
  have bl := h.below hx
  unfold addB
  cases e : tget T x.2 with
  | some q =>
    simp only [Option.isSome_some, if_true]
    refine ⟨h.mid, fun f hf => ?_, fun y hy => ?_⟩
    · rcases h.bound f hf with z | ⟨q, l, z, w | ⟨w, d, hd⟩⟩
      · exact .inl z
      · exact .inr ⟨q, l, z, .inl w⟩
      · exact .inr ⟨q, l, z, .inr ⟨w, d, List.mem_append_left _ hd⟩⟩
    · rcases List.mem_append.mp hy with hy | hy
      · exact h.closed y hy
      · rw [List.mem_singleton.mp hy]
        exact ⟨q, e, .inr (bl _ (tget_mem e))⟩
  | none =>
    simp only [Option.isSome_none, Bool.false_eq_true, if_false]
    refine ⟨⟨?_, fun f hf => ?_, ?_⟩, fun f hf => ?_, fun y hy => ?_⟩
    · have := addB_nodup (p := p) (e := x) h.mid.nodup
      unfold addB at this
      rw [e] at this
      simpa using this
    · rcases List.mem_append.mp hf with hf | hf
      · exact h.mid.sound f hf
      · rw [List.mem_singleton.mp hf]; exact .snoc hp hs
    · rw [List.map_append, List.pairwise_append]
      refine ⟨h.mid.sorted, by simp, fun a ha b hb => ?_⟩
      obtain ⟨f, hf, rfl⟩ := List.mem_map.mp ha
      simp at hb
      subst hb
      exact bl f hf
    · rcases List.mem_append.mp hf with hf | hf
      · rcases h.bound f hf with z | ⟨q, l, z, w | ⟨w, d, hd⟩⟩
        · exact .inl z
        · exact .inr ⟨q, l, z, .inl w⟩
        · exact .inr ⟨q, l, z, .inr ⟨w, d, List.mem_append_left _ hd⟩⟩
      · rw [List.mem_singleton.mp hf]
        exact .inr ⟨p, x.1, rfl, .inr ⟨rfl, x.2, List.mem_append_right _ (List.mem_singleton.mpr rfl)⟩⟩
    · rcases List.mem_append.mp hy with hy | hy
      · obtain ⟨q, q1, q2⟩ := h.closed y hy
        exact ⟨q, tget_pre (List.prefix_append _ _) q1, q2⟩
      · rw [List.mem_singleton.mp hy]
        refine ⟨p ++ [x.1], ?_, .inl rfl⟩
        rw [tget_app, e, tget_cons, if_pos rfl]
        rfl
theorem Exp.all {c0 : C} {p : List L} {c : C} (hp : Path succ c0 p c) : ∀ (es done : List (L × C)) (T : List (C × List L)), (∀ x ∈ es, x ∈ succ c) → (done ++ es).Pairwise (fun a b => lt a.1 b.1) → Exp (succ := succ) (lt := lt) c0 p T done → Exp (succ := succ) (lt := lt) c0 p (es.foldl (addB p) T) (done ++ es)
  | [], done, T, _, _, h => by rw [List.append_nil]; exact h
  | x :: es, done, T, hs, hw, h => by
    have h2 := Exp.step hp h (hs x List.mem_cons_self) (fun y hy => (List.pairwise_append.mp hw).2.2 y hy x List.mem_cons_self)
    have := Exp.all hp es (done ++ [x]) (addB p T x) (fun y hy => hs y (List.mem_cons_of_mem _ hy)) (by rw [List.append_assoc]; exact hw) h2
    rw [List.append_assoc] at this
    exact this
theorem Bfs.next (ir : ∀ a, ¬ lt a a) {c0 : C} {T : List (C × List L)} {i : Nat} (hord : ∀ c, (succ c).Pairwise (fun a b => lt a.1 b.1)) (b : Bfs (succ := succ) lt c0 T i) {e : C × List L} (he : T[i]? = some e) : Bfs (succ := succ) lt c0 (expB succ T e.1 e.2) (i + 1) := by
  have hp := b.mid.sound e (List.mem_of_getElem? he)
  have hil := (List.getElem?_eq_some_iff.mp he).1
  have h0 : Exp (succ := succ) (lt := lt) c0 e.2 T [] := ⟨b.mid, fun f hf => by
    rcases b.bound f hf with z | ⟨q, l, z, j, g, hj, hg, hq⟩
    · exact .inl z
    · refine .inr ⟨q, l, z, .inl ?_⟩
      have h1 : (T.map (·.2))[j]? = some q := by rw [List.getElem?_map, hg]; exact congrArg some hq
      have h2 : (T.map (·.2))[i]? = some e.2 := by rw [List.getElem?_map, he]; rfl
      obtain ⟨a1, a2⟩ := List.getElem?_eq_some_iff.mp h1
      obtain ⟨b1, b2⟩ := List.getElem?_eq_some_iff.mp h2
      rw [← a2, ← b2]
      exact List.pairwise_iff_getElem.mp b.mid.sorted j i a1 b1 hj, fun _ h => absurd h (by simp)⟩
  have h1 := Exp.all hp (succ e.1) [] T (fun _ h => h) (by simpa using hord e.1) h0
  rw [List.nil_append] at h1
  have pre := expB_pre (succ := succ) T e.1 e.2
  have at' : ∀ j, j ≤ i → (expB succ T e.1 e.2)[j]? = T[j]? := fun j hj => by
    obtain ⟨V, hV⟩ := pre
    rw [← hV, List.getElem?_append_left (by omega)]
  refine ⟨h1.mid, pre.subset b.head, fun j f hj hf x hx => ?_, fun f hf => ?_⟩
  · rw [at' j (by omega)] at hf
    by_cases hji : j < i
    · obtain ⟨q, q1, q2⟩ := b.closed j f hji hf x hx
      exact ⟨q, tget_pre pre q1, q2⟩
    · have : j = i := by omega
      subst this
      rw [he] at hf
      cases hf
      exact h1.closed x hx
  · rcases h1.bound f hf with z | ⟨q, l, z, w | ⟨w, d, hd⟩⟩
    · exact .inl z
    · obtain ⟨V, hV⟩ : T <+: expB succ T e.1 e.2 := pre
      by_cases hfT : f ∈ T
      · rcases b.bound f hfT with z | ⟨q, l, z, j, g, hj, hg, hq⟩
        · exact .inl z
        · exact .inr ⟨q, l, z, j, g, by omega, by rw [at' j (by omega)]; exact hg, hq⟩
      · -- a new one has the plan of e ahead of its last
        exfalso
        have : ∀ (es : List (L × C)) (U : List (C × List L)), f ∈ es.foldl (addB e.2) U → f ∉ U → ∃ l, f.2 = e.2 ++ [l] := by
          intro es
          induction es with
          | nil => intro U h1 h2; exact absurd h1 h2
          | cons x es ih =>
            intro U h1 h2
            by_cases hU : f ∈ addB e.2 U x
            · unfold addB at hU
              split at hU
              · exact absurd hU h2
              · rcases List.mem_append.mp hU with h3 | h3
                · exact absurd h3 h2
                · rw [List.mem_singleton.mp h3]; exact ⟨_, rfl⟩
            · exact ih _ h1 hU
        obtain ⟨l', hl'⟩ := this _ _ hf hfT
        rw [hl'] at z
        obtain ⟨z1, z2⟩ := List.append_inj' z rfl
        rw [← z1] at w
        rcases w with w | w
        · omega
        · exact lexL_irr ir _ w.2
    · exact .inr ⟨q, l, z, i, e, by omega, by rw [at' i (Nat.le_refl _)]; exact he, w.symm⟩
theorem Bfs.run (ir : ∀ a, ¬ lt a a) {c0 : C} (hord : ∀ c, (succ c).Pairwise (fun a b => lt a.1 b.1)) (N : Nat) (hN : ∀ U, Mid (succ := succ) lt c0 U → U.length ≤ N) : ∀ (k : Nat) (T : List (C × List L)) (i : Nat), Bfs (succ := succ) lt c0 T i → N < k + i → i ≤ T.length → Bfs (succ := succ) lt c0 (runB succ k T i) (runB succ k T i).length
  | 0, T, i, b, h, hi => by
    have := hN T b.mid
    omega
  | k + 1, T, i, b, h, hi => by
    unfold runB
    cases e : T[i]? with
    | none =>
      have hge : T.length ≤ i := List.getElem?_eq_none_iff.mp e
      have : i = T.length := by omega
      simp only
      rw [← this]; exact b
    | some f =>
      simp only
      have hil := (List.getElem?_eq_some_iff.mp e).1
      have hp := (expB_pre (succ := succ) T f.1 f.2).length_le
      exact Bfs.run ir hord N hN k _ (i + 1) (b.next ir hord e) (by omega) (by omega)
theorem Bfs.first (c0 : C) : Bfs (succ := succ) lt c0 [(c0, [])] 0 :=
  ⟨⟨by simp, fun e he => by rw [List.mem_singleton.mp he]; exact .nil, by simp⟩, List.mem_singleton.mpr rfl, fun j e hj => absurd hj (Nat.not_lt_zero j), fun e he => by rw [List.mem_singleton.mp he]; exact .inl rfl⟩
theorem Bfs.best {c0 : C} {T : List (C × List L)} {i : Nat} (tr : ∀ a b c, lt a b → lt b c → lt a c) (b : Bfs (succ := succ) lt c0 T i) (hi : T.length ≤ i) {p : List L} {c : C} (hp : Path succ c0 p c) : ∃ q, tget T c = some q ∧ (q = p ∨ SL lt q p) := by
  induction hp with
  | nil => exact ⟨[], tget_of b.mid.nodup b.head, .inl rfl⟩
  | @snoc p c d l hp hs ih =>
    obtain ⟨q0, h1, h2⟩ := ih
    obtain ⟨j, hj⟩ := List.mem_iff_getElem?.mp (tget_mem h1)
    obtain ⟨q, q1, q2⟩ := b.closed j _ (by have := (List.getElem?_eq_some_iff.mp hj).1; omega) hj (l, d) hs
    refine ⟨q, q1, ?_⟩
    simp only at q2
    rcases h2 with rfl | h2
    · exact q2
    · rcases q2 with rfl | q2
      · exact .inr (h2.snoc _ _)
      · exact .inr (q2.trans tr (h2.snoc _ _))
/-- the whole table -/
structure Tab (lt : L → L → Prop) (c0 : C) (T : List (C × List L)) : Prop where
  nodup : (T.map (·.1)).Nodup
  sound : ∀ c q, tget T c = some q → Path succ c0 q c
  best : ∀ p c, Path succ c0 p c → ∃ q, tget T c = some q ∧ (q = p ∨ SL lt q p)
theorem tab_ok (ir : ∀ a, ¬ lt a a) (tr : ∀ a b c, lt a b → lt b c → lt a c) {c0 : C} (hord : ∀ c, (succ c).Pairwise (fun a b => lt a.1 b.1)) (N k : Nat) (hN : ∀ U, Mid (succ := succ) lt c0 U → U.length ≤ N) (hk : N < k) : Tab (succ := succ) lt c0 (runB succ k [(c0, [])] 0) ∧ (runB succ k [(c0, [])] 0).length ≤ N := by
  have b := Bfs.run ir hord N hN k _ 0 (Bfs.first c0) (by omega) (by simp)
  exact ⟨⟨b.mid.nodup, fun c q h => b.mid.sound _ (tget_mem h), fun p c h => b.best tr (Nat.le_refl _) h⟩, hN _ b.mid⟩
end
/-! ### the moves within registers -/
def okM (us : List (List Int)) (r : Nat) (c : List Int) (m : Nat) : Bool := canM us c m && decide ((movM c m).length ≤ r)
def succM (us : List (List Int)) (r : Nat) (c : List Int) : List (Int × List Int) := ((List.range us.length).filter (okM us r c)).map fun m : Nat => ((m : Int), movM c m)
theorem succM_mem {us : List (List Int)} {r : Nat} {c d : List Int} {l : Int} : (l, d) ∈ succM us r c ↔ (0 ≤ l ∧ l < us.length ∧ canM us c l = true ∧ (movM c l).length ≤ r) ∧ d = movM c l := by
  unfold succM okM
  rw [List.mem_map]
  constructor
  · rintro ⟨m, hm, e⟩
    cases e
    have := List.mem_filter.mp hm
    have h1 := List.mem_range.mp this.1
    have h2 := this.2
    simp at h2
    exact ⟨⟨by omega, by omega, h2.1, h2.2⟩, rfl⟩
  · rintro ⟨⟨h1, h2, h3, h4⟩, rfl⟩
    have e : ((l.toNat : Nat) : Int) = l := by omega
    refine ⟨l.toNat, List.mem_filter.mpr ⟨List.mem_range.mpr (by omega), ?_⟩, by rw [e]⟩
    rw [e, h3, decide_eq_true h4]; rfl
theorem succM_ord (us : List (List Int)) (r : Nat) (c : List Int) : (succM us r c).Pairwise (fun a b => a.1 < b.1) := by
  unfold succM
  rw [List.pairwise_map]
  refine List.Pairwise.filter _ (List.Pairwise.imp (fun h => ?_) List.pairwise_lt_range)
  simp only
  omega
/-- a plan within registers -/
def okR (us : List (List Int)) (r : Nat) : List Int → List Int → Prop
  | _, [] => True
  | h, s :: t => (0 ≤ s ∧ s < us.length ∧ canM us h s = true ∧ (movM h s).length ≤ r) ∧ okR us r (movM h s) t
theorem okR_snoc {us : List (List Int)} {r : Nat} {s : Int} : ∀ {p h : List Int}, okR us r h (p ++ [s]) ↔ okR us r h p ∧ (0 ≤ s ∧ s < us.length ∧ canM us (endM h p) s = true ∧ (movM (endM h p) s).length ≤ r)
  | [], h => by
    show (_ ∧ True) ↔ (True ∧ _)
    simp only [and_true, true_and]
    exact Iff.rfl
  | x :: p, h => by
    show (_ ∧ okR us r (movM h x) (p ++ [s])) ↔ ((_ ∧ okR us r (movM h x) p) ∧ _)
    rw [okR_snoc]
    exact and_assoc.symm
theorem okR_good {us : List (List Int)} {r : Nat} : ∀ {p h : List Int}, okR us r h p → goodM us h p
  | [], _, _ => trivial
  | _ :: _, _, k => ⟨⟨k.1.1, k.1.2.1, k.1.2.2.1⟩, okR_good k.2⟩
theorem snoc_ind {P : List Int → Prop} (h0 : P []) (hs : ∀ p s, P p → P (p ++ [s])) : ∀ p, P p := fun p => by
  have : ∀ n (p : List Int), p.length = n → P p := by
    intro n
    induction n with
    | zero => intro p hp; rw [List.eq_nil_of_length_eq_zero hp]; exact h0
    | succ n ih =>
      intro p hp
      rcases List.eq_nil_or_concat p with rfl | ⟨q, s, rfl⟩
      · simp at hp
      · rw [List.concat_eq_append] at hp ⊢
        exact hs q s (ih q (by simpa using hp))
  exact this p.length p rfl
theorem path_iff {us : List (List Int)} {r : Nat} {h0 : List Int} {p c : List Int} : Path (succM us r) h0 p c ↔ okR us r h0 p ∧ endM h0 p = c := by
  constructor
  · intro hp
    induction hp with
    | nil => exact ⟨trivial, rfl⟩
    | snoc hp hs ih =>
      obtain ⟨h1, h2⟩ := succM_mem.mp hs
      rw [okR_snoc, end_snoc, ih.2]
      exact ⟨⟨ih.1, h1⟩, h2.symm⟩
  · rintro ⟨h1, rfl⟩
    induction p using snoc_ind with
    | h0 => exact .nil
    | hs p s ih =>
      rw [okR_snoc] at h1
      rw [end_snoc]
      exact .snoc (ih h1.1) (succM_mem.mpr ⟨h1.2, rfl⟩)
/-! how many configurations there are -/
def Cf (n : Nat) (c : List Int) : Prop := Up c ∧ ∀ x ∈ c, 0 ≤ x ∧ x < n
theorem Cf.mov {n : Nat} {c : List Int} (h : Cf n c) {s : Int} (h0 : 0 ≤ s) (h1 : s < n) : Cf n (movM c s) := by
  refine ⟨movM_up h.1 s, fun x hx => ?_⟩
  rw [mem_movM] at hx
  split at hx
  · exact h.2 x hx.1
  · rcases hx with hx | rfl
    · exact h.2 x hx
    · exact ⟨h0, h1⟩
theorem Cf.path {us : List (List Int)} {r : Nat} {h0 p c : List Int} (h : Cf us.length h0) (hp : Path (succM us r) h0 p c) : Cf us.length c := by
  induction hp with
  | nil => exact h
  | snoc _ hs ih =>
    obtain ⟨h1, rfl⟩ := succM_mem.mp hs
    exact ih.mov h1.1 h1.2.1
theorem cf_last {n : Nat} {c : List Int} (h : Cf (n + 1) c) : ((n : Int) ∉ c ∧ Cf n c) ∨ ∃ d, c = d ++ [(n : Int)] ∧ Cf n d := by
  by_cases hn : (n : Int) ∈ c
  · right
    rcases List.eq_nil_or_concat c with rfl | ⟨d, x, rfl⟩
    · simp at hn
    · rw [List.concat_eq_append] at h hn ⊢
      have hp := List.pairwise_append.mp h.1
      have hx := h.2 x (by simp)
      have e : x = (n : Int) := by
        rcases List.mem_append.mp hn with z | z
        · have := hp.2.2 _ z x (by simp); omega
        · exact (List.mem_singleton.mp z).symm
      subst e
      refine ⟨d, rfl, hp.1, fun y hy => ?_⟩
      have := hp.2.2 y hy (n : Int) (by simp)
      have := h.2 y (List.mem_append_left _ hy)
      omega
  · left
    refine ⟨hn, h.1, fun x hx => ?_⟩
    have := h.2 x hx
    have : x ≠ (n : Int) := fun z => hn (z ▸ hx)
    omega
theorem filter_two {α : Type} (p : α → Bool) : ∀ l : List α, l.length = (l.filter p).length + (l.filter fun x => !p x).length
  | [] => rfl
  | x :: l => by
    have := filter_two p l
    by_cases h : p x = true
    · simp [List.filter_cons, h]; omega
    · simp at h; simp [List.filter_cons, h]; omega
theorem cf_count : ∀ (n : Nat) (l : List (List Int)), l.Nodup → (∀ c ∈ l, Cf n c) → l.length ≤ 2 ^ n
  | 0, l, nd, h => by
    have : ∀ c ∈ l, c = [] := fun c hc => by
      cases c with
      | nil => rfl
      | cons x c => have := (h _ hc).2 x List.mem_cons_self; omega
    cases l with
    | nil => simp
    | cons a l =>
      cases l with
      | nil => simp
      | cons b l =>
        have h1 := this a (by simp)
        have h2 := this b (by simp)
        rw [h1, h2] at nd
        simp at nd
  | n + 1, l, nd, h => by
    have e := filter_two (fun c : List Int => decide ((n : Int) ∈ c)) l
    have h1 : (l.filter fun c => !decide ((n : Int) ∈ c)).length ≤ 2 ^ n := by
      refine cf_count n _ (nd.filter _) fun c hc => ?_
      have := List.mem_filter.mp hc
      rcases cf_last (h c this.1) with z | ⟨d, z, _⟩
      · exact z.2
      · have h2 := this.2
        rw [z] at h2
        simp at h2
    have h2 : (l.filter fun c => decide ((n : Int) ∈ c)).length ≤ 2 ^ n := by
      have := cf_count n ((l.filter fun c => decide ((n : Int) ∈ c)).map List.dropLast) ?_ ?_
      · simpa using this
      · have nd2 := nd.filter (fun c : List Int => decide ((n : Int) ∈ c))
        unfold List.Nodup
        rw [List.pairwise_map]
        refine List.Pairwise.imp_of_mem (fun {a b} ha hb hab e => hab ?_) nd2
        have ma := List.mem_filter.mp ha
        have mb := List.mem_filter.mp hb
        simp at ma mb
        rcases cf_last (h a ma.1) with z | ⟨d, rfl, _⟩
        · exact absurd ma.2 z.1
        · rcases cf_last (h b mb.1) with z | ⟨d', rfl, _⟩
          · exact absurd mb.2 z.1
          · simp at e
            rw [e]
      · intro c hc
        obtain ⟨a, ha, rfl⟩ := List.mem_map.mp hc
        have ma := List.mem_filter.mp ha
        simp at ma
        rcases cf_last (h a ma.1) with z | ⟨d, rfl, hd⟩
        · exact absurd ma.2 z.1
        · simpa using hd
    rw [e, Nat.pow_succ]
    omega
/-- the table of a start -/
def tabM (us : List (List Int)) (r : Nat) (h0 : List Int) : List (List Int × List Int) := runB (succM us r) 300 [(h0, [])] 0
theorem tabM_ok {us : List (List Int)} {r : Nat} {h0 : List Int} (hu : us.length ≤ 8) (hc : Cf us.length h0) : Tab (succ := succM us r) (· < ·) h0 (tabM us r h0) ∧ (tabM us r h0).length ≤ 256 := by
  refine tab_ok (lt := fun a b : Int => a < b) (fun a => by omega) (fun a b c => by omega) (fun c => succM_ord us r c) 256 300 (fun U m => ?_) (by omega)
  have h1 := cf_count us.length (U.map (·.1)) m.nodup fun c hc' => by
    obtain ⟨e, he, rfl⟩ := List.mem_map.mp hc'
    exact hc.path (m.sound e he)
  rw [List.length_map] at h1
  have : 2 ^ us.length ≤ 2 ^ 8 := Nat.pow_le_pow_right (by omega) hu
  omega
/-- what the search for a goal finds -/
def planM (us : List (List Int)) (r : Nat) (h0 g : List Int) : Option (List Int) := tget (tabM us r h0) g
theorem planM_seek {us : List (List Int)} {r : Nat} {h0 : List Int} (g : List Int) (hu : us.length ≤ 8) (hc : Cf us.length h0) : seekB (succM us r) g 300 [(h0, [])] 0 = planM us r h0 g := by
  have := (tabM_ok (r := r) hu hc).2
  exact seek_run g 300 _ 0 (by simp) (fun j e hj => absurd hj (Nat.not_lt_zero j)) (by unfold tabM at this; omega) (by simp)
theorem planM_sound {us : List (List Int)} {r : Nat} {h0 g q : List Int} (hu : us.length ≤ 8) (hc : Cf us.length h0) (h : planM us r h0 g = some q) : okR us r h0 q ∧ endM h0 q = g := path_iff.mp ((tabM_ok hu hc).1.sound _ _ h)
theorem planM_best {us : List (List Int)} {r : Nat} {h0 p : List Int} (hu : us.length ≤ 8) (hc : Cf us.length h0) (h : okR us r h0 p) : ∃ q, planM us r h0 (endM h0 p) = some q ∧ (q = p ∨ SL (· < ·) q p) := (tabM_ok hu hc).1.best _ _ (path_iff.mpr ⟨h, rfl⟩)
/-! ### transitions, and the search, walked -/
def encP (T : List (List Int × List Int)) : List (List Int × PyData) := T.map fun e => (e.1, .list (e.2.map .int))
def encD (T : List (List Int × List Int)) : List (List Int × PyData) := T.map fun e => (e.1, .int (e.2.length : Int))
def encQ (T : List (List Int × List Int)) : List PyData := T.map fun e => tupD e.1
theorem dGet_map (f : List Int → PyData) (T : List (List Int × List Int)) (k : List Int) : dGet (T.map fun e => (e.1, f e.2)) k = (tget T k).map f := by
  induction T with
  | nil => rfl
  | cons e T ih => rw [List.map_cons, dGet_cons, tget_cons, ih]; split <;> rfl
theorem dGet_P (T : List (List Int × List Int)) (k : List Int) : dGet (encP T) k = (tget T k).map fun p => .list (p.map .int) := dGet_map (fun p => .list (p.map .int)) T k
theorem dGet_D (T : List (List Int × List Int)) (k : List Int) : dGet (encD T) k = (tget T k).map fun p => .int (p.length : Int) := dGet_map (fun p => .int (p.length : Int)) T k
def encM (es : List (Int × List Int)) : List PyData := es.map fun e => .tuple [.int e.1, tupD e.2]
theorem trans_ok (us : List (List Int)) (ts h : List Int) (r : Nat) (hu : us.length ≤ 1000) (hl : h.length ≤ 900) : F_transitions [.d (encT us ts), .d (tupD h), .d (.int r)] = .ok (.ol (encM (succM us r h))) := by
  have h0 : gIx (.d (encT us ts)) (.d (.int 0)) = .ok (.d (.tuple (encU us))) := rfl
  have main : ∀ (ms : List Nat) (acc : List (Int × List Int)) (e4 e5 : Option RV), (∀ m ∈ ms, m < us.length) → acc.length + ms.length ≤ 1000 → ∃ e4' e5', loopF (.nm 4) L0_transitions (ms.map natI) [some (.d (encT us ts)), some (.d (tupD h)), some (.d (.int r)), some (.ol (encM acc)), e4, e5]
      = .nx [some (.d (encT us ts)), some (.d (tupD h)), some (.d (.int r)), some (.ol (encM (acc ++ (ms.filter (okM us r h)).map fun m : Nat => ((m : Int), movM h m)))), e4', e5'] := by
    intro ms
    induction ms with
    | nil => intro acc e4 e5 _ _; exact ⟨e4, e5, by simp⟩
    | cons m ms ih =>
      intro acc e4 e5 hm hz
      rw [List.length_cons] at hz
      have hm0 := hm m List.mem_cons_self
      have p1 := possible_ok us ts h m (by omega) (by omega)
      have p1 : F_is_possible [.d (encT us ts), .d (tupD h), .d (.int m)] = _ := p1
      have p2 : F_moved [.d (tupD h), .d (.int m)] = .ok (.d (tupD (movM h m))) := moved_ok h m (by omega)
      have hln : gLen [.d (tupD (movM h m))] = .ok (.d (.int (movM h m).length)) := by rw [tupD, e_lenT, List.length_map]
      have hz1 : acc.length ≤ 1000000 := by omega
      rw [List.map_cons, loopF_cons]
      generalize hX : L0_transitions _ = X
      have ht : tgE (.nm 4) (natI m) [some (.d (encT us ts)), some (.d (tupD h)), some (.d (.int r)), some (.ol (encM acc)), e4, e5] = some [some (.d (encT us ts)), some (.d (tupD h)), some (.d (.int r)), some (.ol (encM acc)), some (.d (.int m)), e5] := rfl
      rw [ht]
      have el : (encM acc).length = acc.length := List.length_map ..
      by_cases c1 : canM us h m = true
      · by_cases c2 : (movM h m).length ≤ r
        · have ok : okM us r h m = true := by unfold okM; rw [c1, decide_eq_true c2]; rfl
          obtain ⟨e4', e5', ih⟩ := ih (acc ++ [((m : Int), movM h m)]) (some (.d (.int m))) (some (.d (tupD (movM h m)))) (fun x hx => hm x (List.mem_cons_of_mem _ hx)) (by simp; omega)
          refine ⟨e4', e5', ?_⟩
          rw [List.filter_cons_of_pos ok, List.map_cons, show acc ++ ((m : Int), movM h m) :: (ms.filter (okM us r h)).map (fun m : Nat => ((m : Int), movM h m)) = (acc ++ [((m : Int), movM h m)]) ++ (ms.filter (okM us r h)).map (fun m : Nat => ((m : Int), movM h m)) by simp, ← ih]
          have hb : L0_transitions [some (.d (encT us ts)), some (.d (tupD h)), some (.d (.int r)), some (.ol (encM acc)), some (.d (.int m)), e5] = .nx [some (.d (encT us ts)), some (.d (tupD h)), some (.d (.int r)), some (.ol (encM (acc ++ [((m : Int), movM h m)]))), some (.d (.int m)), some (.d (tupD (movM h m)))] := by
            have hdec : decide (((movM h m).length : Int) ≤ (r : Int)) = true := decide_eq_true (by omega)
            have hap : encM (acc ++ [((m : Int), movM h m)]) = encM acc ++ [.tuple [.int m, tupD (movM h m)]] := by unfold encM; rw [List.map_append]; rfl
            unfold L0_transitions
            rw [hap]
            simp only [e_nil, e_seq, e_fz, e_bk, e_ct, e_ret, e_retN, e_drop, e_set, e_if, e_for, e_cC, e_c2, e_c1, e_cA, e_aN, e_aC, e_cB, e_asB, e_bNot, e_bAnd, e_bOr, e_vAnd, e_vOr, e_vNot, e_vIf, e_bYes, e_iL, e_iT, e_iLb, e_iR, e_gL1, e_gL2, e_gL3, e_gT, e_gLb1, e_gLb2, e_gLb3, e_gLb4, e_nb1, e_nb2, e_bor1, e_bor2, e_bor3, e_bor4, e_arg1, e_arg2, e_arg3, e_arg4, e_putd, e_puto, e_toD1, e_toD2, e_allD0, e_allD1, e_allD2, e_gTupl, e_gList, e_tgnm, e_tgtp, e_tg0, e_tg1, e_sq1, e_sq2, e_sq3, e_sq4, e_sq5, e_qv2, e_qv3, e_qv4, e_qv5, e_data1, e_data2, e_data3, e_okI, e_okB, e_i2, e_sub, e_mul, e_mod, e_div, e_pow, e_lt, e_le, e_gt, e_ge, e_neg, e_addI, e_addS, e_addT, e_addL1, e_addL2, e_addL3, e_addL4, e_addL5, e_addL6, e_addL7, e_addL8, e_addL9, e_eq, e_ne, e_in, e_notIn, e_inT, e_inT2, e_inL1, e_inL2, e_inL3, e_is, e_isNot, e_isN1, e_isN2, e_isN3, e_isN4, e_isN5, e_isN6, e_isN7, e_ixT, e_ixL, e_ixO, e_ixB, e_ixSc, e_lenT, e_lenL, e_lenO, e_lenB, e_lenSc, e_lenS, e_tupT, e_tupL, e_tupO, e_tupB, e_lisT, e_lisL, e_lisO, e_lisB, e_min2, e_max2, e_any, e_all, e_sum, e_sorted, e_rev, e_sl, e_oN, e_isi, e_lc, e_wipe0, e_wipe1, e_iA, e_iAb, e_gAq1, e_gAq2, e_gAq3, e_gAqb1, e_gAqb2, e_gAqb3, e_gAqb4, e_no, e_cCh, e_cChI, e_aug, e_decT, e_decF, e_cDispS, e_cDT, e_cDK, e_cDisp1, e_storeA, e_stR1, e_stR2, e_stR3, e_sd1, e_keyD1, e_keyD2, e_keyTD, e_intsD, e_intsD0, e_borT, e_borT2, e_borK, e_borK2, e_argT, e_argT2, e_argK, e_argK2, e_nbT, e_nbK, e_putT, e_putK, e_gAt1, e_gAt2, e_gAt3, e_gAt4, e_gGetDK, e_gGetDT, e_gIxD, e_gInD, e_gNotInD, e_cGet1, e_cGet2, e_dk1, e_dk2, e_dk3, e_dk4, e_dt1, e_dt2, e_del, atI_zero, e_at1, e_at2, e_at3, e_at4, e_at5, e_at6, e_at7, e_at8, e_at9, e_atm, e_V, e_retV, e_unp, e_app, e_store, e_fzE, oS, rsO_some, Rs.bind_ok, Rs.bind_no, Rs.out_ok, Out.then_nx, Out.then_rt, Out.then_ct, Out.then_bk, fin_rt, fin_nx, List.getElem?_cons_zero, List.getElem?_cons_succ, List.set_cons_succ, List.set_cons_zero, List.length_cons, List.length_nil, Nat.reduceAdd, Nat.reduceLT, Nat.reduceLeDiff, Nat.reduceEqDiff, if_true, if_false, Bool.false_eq_true, Bool.not_true, Bool.not_false, and_self, true_and, and_true, List.map_cons, List.map_nil, Option.map_some, sh_int, sh_bool, sh_none, sh_tup, sh_lst, eqv_int, reduceIte, Option.bind_some, Option.bind_none, kitB_ll, kitB_lt, kitB_tt, kitB_tl, kitB_ii, tyD_list, tyD_int, Bool.true_and, Bool.false_and, Bool.and_true, Bool.and_false, Bool.or_true, Bool.true_or, Bool.false_or, Bool.or_false, Bool.and_self, Bool.or_self, e_cAK, List.append_nil, List.nil_append, List.cons_append, e_andB, e_orB, e_andR, e_orR, tyD_tuple, eqv_bool, eqv_none, tyD_bool, tyD_str, tyD_none, kitB_bb, kitB_nb, kitB_bi, kitB_ib, kitB_nl, kitB_nt, beq_self_eq_true, p1, c1, p2, hln, hdec, el, if_pos hz1]
          simp only [hb, lp_nx]
        · have ok : ¬ okM us r h m = true := by unfold okM; rw [c1, decide_eq_false c2]; simp
          obtain ⟨e4', e5', ih⟩ := ih acc (some (.d (.int m))) (some (.d (tupD (movM h m)))) (fun x hx => hm x (List.mem_cons_of_mem _ hx)) (by omega)
          refine ⟨e4', e5', ?_⟩
          rw [List.filter_cons_of_neg ok, ← ih]
          have hb : L0_transitions [some (.d (encT us ts)), some (.d (tupD h)), some (.d (.int r)), some (.ol (encM acc)), some (.d (.int m)), e5] = .nx [some (.d (encT us ts)), some (.d (tupD h)), some (.d (.int r)), some (.ol (encM acc)), some (.d (.int m)), some (.d (tupD (movM h m)))] := by
            have hdec : decide (((movM h m).length : Int) ≤ (r : Int)) = false := decide_eq_false (by omega)
            unfold L0_transitions
            simp only [e_nil, e_seq, e_fz, e_bk, e_ct, e_ret, e_retN, e_drop, e_set, e_if, e_for, e_cC, e_c2, e_c1, e_cA, e_aN, e_aC, e_cB, e_asB, e_bNot, e_bAnd, e_bOr, e_vAnd, e_vOr, e_vNot, e_vIf, e_bYes, e_iL, e_iT, e_iLb, e_iR, e_gL1, e_gL2, e_gL3, e_gT, e_gLb1, e_gLb2, e_gLb3, e_gLb4, e_nb1, e_nb2, e_bor1, e_bor2, e_bor3, e_bor4, e_arg1, e_arg2, e_arg3, e_arg4, e_putd, e_puto, e_toD1, e_toD2, e_allD0, e_allD1, e_allD2, e_gTupl, e_gList, e_tgnm, e_tgtp, e_tg0, e_tg1, e_sq1, e_sq2, e_sq3, e_sq4, e_sq5, e_qv2, e_qv3, e_qv4, e_qv5, e_data1, e_data2, e_data3, e_okI, e_okB, e_i2, e_sub, e_mul, e_mod, e_div, e_pow, e_lt, e_le, e_gt, e_ge, e_neg, e_addI, e_addS, e_addT, e_addL1, e_addL2, e_addL3, e_addL4, e_addL5, e_addL6, e_addL7, e_addL8, e_addL9, e_eq, e_ne, e_in, e_notIn, e_inT, e_inT2, e_inL1, e_inL2, e_inL3, e_is, e_isNot, e_isN1, e_isN2, e_isN3, e_isN4, e_isN5, e_isN6, e_isN7, e_ixT, e_ixL, e_ixO, e_ixB, e_ixSc, e_lenT, e_lenL, e_lenO, e_lenB, e_lenSc, e_lenS, e_tupT, e_tupL, e_tupO, e_tupB, e_lisT, e_lisL, e_lisO, e_lisB, e_min2, e_max2, e_any, e_all, e_sum, e_sorted, e_rev, e_sl, e_oN, e_isi, e_lc, e_wipe0, e_wipe1, e_iA, e_iAb, e_gAq1, e_gAq2, e_gAq3, e_gAqb1, e_gAqb2, e_gAqb3, e_gAqb4, e_no, e_cCh, e_cChI, e_aug, e_decT, e_decF, e_cDispS, e_cDT, e_cDK, e_cDisp1, e_storeA, e_stR1, e_stR2, e_stR3, e_sd1, e_keyD1, e_keyD2, e_keyTD, e_intsD, e_intsD0, e_borT, e_borT2, e_borK, e_borK2, e_argT, e_argT2, e_argK, e_argK2, e_nbT, e_nbK, e_putT, e_putK, e_gAt1, e_gAt2, e_gAt3, e_gAt4, e_gGetDK, e_gGetDT, e_gIxD, e_gInD, e_gNotInD, e_cGet1, e_cGet2, e_dk1, e_dk2, e_dk3, e_dk4, e_dt1, e_dt2, e_del, atI_zero, e_at1, e_at2, e_at3, e_at4, e_at5, e_at6, e_at7, e_at8, e_at9, e_atm, e_V, e_retV, e_unp, e_app, e_store, e_fzE, oS, rsO_some, Rs.bind_ok, Rs.bind_no, Rs.out_ok, Out.then_nx, Out.then_rt, Out.then_ct, Out.then_bk, fin_rt, fin_nx, List.getElem?_cons_zero, List.getElem?_cons_succ, List.set_cons_succ, List.set_cons_zero, List.length_cons, List.length_nil, Nat.reduceAdd, Nat.reduceLT, Nat.reduceLeDiff, Nat.reduceEqDiff, if_true, if_false, Bool.false_eq_true, Bool.not_true, Bool.not_false, and_self, true_and, and_true, List.map_cons, List.map_nil, Option.map_some, sh_int, sh_bool, sh_none, sh_tup, sh_lst, eqv_int, reduceIte, Option.bind_some, Option.bind_none, kitB_ll, kitB_lt, kitB_tt, kitB_tl, kitB_ii, tyD_list, tyD_int, Bool.true_and, Bool.false_and, Bool.and_true, Bool.and_false, Bool.or_true, Bool.true_or, Bool.false_or, Bool.or_false, Bool.and_self, Bool.or_self, e_cAK, List.append_nil, List.nil_append, List.cons_append, e_andB, e_orB, e_andR, e_orR, tyD_tuple, eqv_bool, eqv_none, tyD_bool, tyD_str, tyD_none, kitB_bb, kitB_nb, kitB_bi, kitB_ib, kitB_nl, kitB_nt, beq_self_eq_true, p1, c1, p2, hln, hdec]
          simp only [hb, lp_nx]
      · have c1' : canM us h m = false := by simpa using c1
        have ok : ¬ okM us r h m = true := by unfold okM; rw [c1']; simp
        obtain ⟨e4', e5', ih⟩ := ih acc (some (.d (.int m))) e5 (fun x hx => hm x (List.mem_cons_of_mem _ hx)) (by omega)
        refine ⟨e4', e5', ?_⟩
        rw [List.filter_cons_of_neg ok, ← ih]
        have hb : L0_transitions [some (.d (encT us ts)), some (.d (tupD h)), some (.d (.int r)), some (.ol (encM acc)), some (.d (.int m)), e5] = .nx [some (.d (encT us ts)), some (.d (tupD h)), some (.d (.int r)), some (.ol (encM acc)), some (.d (.int m)), e5] := by
          unfold L0_transitions
          simp only [e_nil, e_seq, e_fz, e_bk, e_ct, e_ret, e_retN, e_drop, e_set, e_if, e_for, e_cC, e_c2, e_c1, e_cA, e_aN, e_aC, e_cB, e_asB, e_bNot, e_bAnd, e_bOr, e_vAnd, e_vOr, e_vNot, e_vIf, e_bYes, e_iL, e_iT, e_iLb, e_iR, e_gL1, e_gL2, e_gL3, e_gT, e_gLb1, e_gLb2, e_gLb3, e_gLb4, e_nb1, e_nb2, e_bor1, e_bor2, e_bor3, e_bor4, e_arg1, e_arg2, e_arg3, e_arg4, e_putd, e_puto, e_toD1, e_toD2, e_allD0, e_allD1, e_allD2, e_gTupl, e_gList, e_tgnm, e_tgtp, e_tg0, e_tg1, e_sq1, e_sq2, e_sq3, e_sq4, e_sq5, e_qv2, e_qv3, e_qv4, e_qv5, e_data1, e_data2, e_data3, e_okI, e_okB, e_i2, e_sub, e_mul, e_mod, e_div, e_pow, e_lt, e_le, e_gt, e_ge, e_neg, e_addI, e_addS, e_addT, e_addL1, e_addL2, e_addL3, e_addL4, e_addL5, e_addL6, e_addL7, e_addL8, e_addL9, e_eq, e_ne, e_in, e_notIn, e_inT, e_inT2, e_inL1, e_inL2, e_inL3, e_is, e_isNot, e_isN1, e_isN2, e_isN3, e_isN4, e_isN5, e_isN6, e_isN7, e_ixT, e_ixL, e_ixO, e_ixB, e_ixSc, e_lenT, e_lenL, e_lenO, e_lenB, e_lenSc, e_lenS, e_tupT, e_tupL, e_tupO, e_tupB, e_lisT, e_lisL, e_lisO, e_lisB, e_min2, e_max2, e_any, e_all, e_sum, e_sorted, e_rev, e_sl, e_oN, e_isi, e_lc, e_wipe0, e_wipe1, e_iA, e_iAb, e_gAq1, e_gAq2, e_gAq3, e_gAqb1, e_gAqb2, e_gAqb3, e_gAqb4, e_no, e_cCh, e_cChI, e_aug, e_decT, e_decF, e_cDispS, e_cDT, e_cDK, e_cDisp1, e_storeA, e_stR1, e_stR2, e_stR3, e_sd1, e_keyD1, e_keyD2, e_keyTD, e_intsD, e_intsD0, e_borT, e_borT2, e_borK, e_borK2, e_argT, e_argT2, e_argK, e_argK2, e_nbT, e_nbK, e_putT, e_putK, e_gAt1, e_gAt2, e_gAt3, e_gAt4, e_gGetDK, e_gGetDT, e_gIxD, e_gInD, e_gNotInD, e_cGet1, e_cGet2, e_dk1, e_dk2, e_dk3, e_dk4, e_dt1, e_dt2, e_del, atI_zero, e_at1, e_at2, e_at3, e_at4, e_at5, e_at6, e_at7, e_at8, e_at9, e_atm, e_V, e_retV, e_unp, e_app, e_store, e_fzE, oS, rsO_some, Rs.bind_ok, Rs.bind_no, Rs.out_ok, Out.then_nx, Out.then_rt, Out.then_ct, Out.then_bk, fin_rt, fin_nx, List.getElem?_cons_zero, List.getElem?_cons_succ, List.set_cons_succ, List.set_cons_zero, List.length_cons, List.length_nil, Nat.reduceAdd, Nat.reduceLT, Nat.reduceLeDiff, Nat.reduceEqDiff, if_true, if_false, Bool.false_eq_true, Bool.not_true, Bool.not_false, and_self, true_and, and_true, List.map_cons, List.map_nil, Option.map_some, sh_int, sh_bool, sh_none, sh_tup, sh_lst, eqv_int, reduceIte, Option.bind_some, Option.bind_none, kitB_ll, kitB_lt, kitB_tt, kitB_tl, kitB_ii, tyD_list, tyD_int, Bool.true_and, Bool.false_and, Bool.and_true, Bool.and_false, Bool.or_true, Bool.true_or, Bool.false_or, Bool.or_false, Bool.and_self, Bool.or_self, e_cAK, List.append_nil, List.nil_append, List.cons_append, e_andB, e_orB, e_andR, e_orR, tyD_tuple, eqv_bool, eqv_none, tyD_bool, tyD_str, tyD_none, kitB_bb, kitB_nb, kitB_bi, kitB_ib, kitB_nl, kitB_nt, beq_self_eq_true, p1, c1']
        simp only [hb, lp_nx]
  obtain ⟨e4', e5', e⟩ := main (List.range us.length) [] none none (fun m hm => List.mem_range.mp hm) (by simp; omega)
  have hr := e_R1n (n := us.length) (by omega)
  rw [rng_nat] at hr
  rw [List.nil_append] at e
  show (sSeq _ _ [some (.d (encT us ts)), some (.d (tupD h)), some (.d (.int r)), none, none, none]).fin = _
  have e0 : encM [] = [] := rfl
  rw [e0] at e
  simp only [e_nil, e_seq, e_fz, e_bk, e_ct, e_ret, e_retN, e_drop, e_set, e_if, e_for, e_cC, e_c2, e_c1, e_cA, e_aN, e_aC, e_cB, e_asB, e_bNot, e_bAnd, e_bOr, e_vAnd, e_vOr, e_vNot, e_vIf, e_bYes, e_iL, e_iT, e_iLb, e_iR, e_gL1, e_gL2, e_gL3, e_gT, e_gLb1, e_gLb2, e_gLb3, e_gLb4, e_nb1, e_nb2, e_bor1, e_bor2, e_bor3, e_bor4, e_arg1, e_arg2, e_arg3, e_arg4, e_putd, e_puto, e_toD1, e_toD2, e_allD0, e_allD1, e_allD2, e_gTupl, e_gList, e_tgnm, e_tgtp, e_tg0, e_tg1, e_sq1, e_sq2, e_sq3, e_sq4, e_sq5, e_qv2, e_qv3, e_qv4, e_qv5, e_data1, e_data2, e_data3, e_okI, e_okB, e_i2, e_sub, e_mul, e_mod, e_div, e_pow, e_lt, e_le, e_gt, e_ge, e_neg, e_addI, e_addS, e_addT, e_addL1, e_addL2, e_addL3, e_addL4, e_addL5, e_addL6, e_addL7, e_addL8, e_addL9, e_eq, e_ne, e_in, e_notIn, e_inT, e_inT2, e_inL1, e_inL2, e_inL3, e_is, e_isNot, e_isN1, e_isN2, e_isN3, e_isN4, e_isN5, e_isN6, e_isN7, e_ixT, e_ixL, e_ixO, e_ixB, e_ixSc, e_lenT, e_lenL, e_lenO, e_lenB, e_lenSc, e_lenS, e_tupT, e_tupL, e_tupO, e_tupB, e_lisT, e_lisL, e_lisO, e_lisB, e_min2, e_max2, e_any, e_all, e_sum, e_sorted, e_rev, e_sl, e_oN, e_isi, e_lc, e_wipe0, e_wipe1, e_iA, e_iAb, e_gAq1, e_gAq2, e_gAq3, e_gAqb1, e_gAqb2, e_gAqb3, e_gAqb4, e_no, e_cCh, e_cChI, e_aug, e_decT, e_decF, e_cDispS, e_cDT, e_cDK, e_cDisp1, e_storeA, e_stR1, e_stR2, e_stR3, e_sd1, e_keyD1, e_keyD2, e_keyTD, e_intsD, e_intsD0, e_borT, e_borT2, e_borK, e_borK2, e_argT, e_argT2, e_argK, e_argK2, e_nbT, e_nbK, e_putT, e_putK, e_gAt1, e_gAt2, e_gAt3, e_gAt4, e_gGetDK, e_gGetDT, e_gIxD, e_gInD, e_gNotInD, e_cGet1, e_cGet2, e_dk1, e_dk2, e_dk3, e_dk4, e_dt1, e_dt2, e_del, atI_zero, e_at1, e_at2, e_at3, e_at4, e_at5, e_at6, e_at7, e_at8, e_at9, e_atm, e_V, e_retV, e_unp, e_app, e_store, e_fzE, oS, rsO_some, Rs.bind_ok, Rs.bind_no, Rs.out_ok, Out.then_nx, Out.then_rt, Out.then_ct, Out.then_bk, fin_rt, fin_nx, List.getElem?_cons_zero, List.getElem?_cons_succ, List.set_cons_succ, List.set_cons_zero, List.length_cons, List.length_nil, Nat.reduceAdd, Nat.reduceLT, Nat.reduceLeDiff, Nat.reduceEqDiff, if_true, if_false, Bool.false_eq_true, Bool.not_true, Bool.not_false, and_self, true_and, and_true, List.map_cons, List.map_nil, Option.map_some, sh_int, sh_bool, sh_none, sh_tup, sh_lst, eqv_int, reduceIte, Option.bind_some, Option.bind_none, kitB_ll, kitB_lt, kitB_tt, kitB_tl, kitB_ii, tyD_list, tyD_int, Bool.true_and, Bool.false_and, Bool.and_true, Bool.and_false, Bool.or_true, Bool.true_or, Bool.false_or, Bool.or_false, Bool.and_self, Bool.or_self, e_cAK, List.append_nil, List.nil_append, List.cons_append, e_andB, e_orB, e_andR, e_orR, tyD_tuple, eqv_bool, eqv_none, tyD_bool, tyD_str, tyD_none, kitB_bb, kitB_nb, kitB_bi, kitB_ib, kitB_nl, kitB_nt, beq_self_eq_true, h0, encU_len, hr, e]
  rfl
/-! one configuration is left for all others -/
theorem plan_in (a b c d : Option RV) (at1 : PyData) (h p : List Int) : ∀ (es : List (Int × List Int)) (T : List (List Int × List Int)) (e8 e9 : Option RV), tget T h = some p → T.length + es.length ≤ 500000 → p.length ≤ 500000 → ∃ e8' e9', loopF (.tp [8, 9]) L0_shortest_plan (encM es) [a, b, c, d, some (.ot (encP T)), some (.ol (encQ T)), some (.d at1), some (.d (tupD h)), e8, e9]
    = .nx [a, b, c, d, some (.ot (encP (es.foldl (addB p) T))), some (.ol (encQ (es.foldl (addB p) T))), some (.d at1), some (.d (tupD h)), e8', e9']
  | [], T, e8, e9, _, _, _ => ⟨e8, e9, rfl⟩
  | (m, q) :: es, T, e8, e9, hp, hz, hz2 => by
    rw [List.length_cons] at hz
    have hl : (encP T).length = T.length := List.length_map ..
    have hl2 : (encQ T).length = T.length := List.length_map ..
    have hz1 : T.length ≤ 1000000 := by omega
    have hz3 : p.length ≤ 999999 := by omega
    have hadd : addB p T (m, q) = if (tget T q).isSome = true then T else T ++ [(q, p ++ [m])] := rfl
    obtain ⟨e8', e9', ih⟩ := plan_in a b c d at1 h p es (addB p T (m, q)) (some (.d (.int m))) (some (.d (tupD q))) (tget_pre (addB_pre p T _) hp) (by rw [hadd]; split <;> first | omega | (simp; omega)) hz2
    refine ⟨e8', e9', ?_⟩
    rw [List.foldl_cons, ← ih]
    have hm : encM ((m, q) :: es) = .tuple [.int m, tupD q] :: encM es := rfl
    rw [hm, loopF_cons]
    have ht : tgE (.tp [8, 9]) (.tuple [.int m, tupD q]) [a, b, c, d, some (.ot (encP T)), some (.ol (encQ T)), some (.d at1), some (.d (tupD h)), e8, e9] = some [a, b, c, d, some (.ot (encP T)), some (.ol (encQ T)), some (.d at1), some (.d (tupD h)), some (.d (.int m)), some (.d (tupD q))] := rfl
    rw [ht]
    have hk1 : keyTD (tupD q) = some q := intsD_map q
    have hk2 : keyTD (tupD h) = some h := intsD_map h
    have hb : L0_shortest_plan [a, b, c, d, some (.ot (encP T)), some (.ol (encQ T)), some (.d at1), some (.d (tupD h)), some (.d (.int m)), some (.d (tupD q))] = .nx [a, b, c, d, some (.ot (encP (addB p T (m, q)))), some (.ol (encQ (addB p T (m, q)))), some (.d at1), some (.d (tupD h)), some (.d (.int m)), some (.d (tupD q))] := by
      rw [hadd]
      generalize hX : L0_shortest_plan _ = X
      unfold L0_shortest_plan at hX
      cases hq : tget T q with
      | some q' =>
        have e1 : dGet (encP T) q = some (.list (q'.map .int)) := by rw [dGet_P, hq]; rfl
        simp only [e_nil, e_seq, e_fz, e_bk, e_ct, e_ret, e_retN, e_drop, e_set, e_if, e_for, e_cC, e_c2, e_c1, e_cA, e_aN, e_aC, e_cB, e_asB, e_bNot, e_bAnd, e_bOr, e_vAnd, e_vOr, e_vNot, e_vIf, e_bYes, e_iL, e_iT, e_iLb, e_iR, e_gL1, e_gL2, e_gL3, e_gT, e_gLb1, e_gLb2, e_gLb3, e_gLb4, e_nb1, e_nb2, e_bor1, e_bor2, e_bor3, e_bor4, e_arg1, e_arg2, e_arg3, e_arg4, e_putd, e_puto, e_toD1, e_toD2, e_allD0, e_allD1, e_allD2, e_gTupl, e_gList, e_tgnm, e_tgtp, e_tg0, e_tg1, e_sq1, e_sq2, e_sq3, e_sq4, e_sq5, e_qv2, e_qv3, e_qv4, e_qv5, e_data1, e_data2, e_data3, e_okI, e_okB, e_i2, e_sub, e_mul, e_mod, e_div, e_pow, e_lt, e_le, e_gt, e_ge, e_neg, e_addI, e_addS, e_addT, e_addL1, e_addL2, e_addL3, e_addL4, e_addL5, e_addL6, e_addL7, e_addL8, e_addL9, e_eq, e_ne, e_in, e_notIn, e_inT, e_inT2, e_inL1, e_inL2, e_inL3, e_is, e_isNot, e_isN1, e_isN2, e_isN3, e_isN4, e_isN5, e_isN6, e_isN7, e_ixT, e_ixL, e_ixO, e_ixB, e_ixSc, e_lenT, e_lenL, e_lenO, e_lenB, e_lenSc, e_lenS, e_tupT, e_tupL, e_tupO, e_tupB, e_lisT, e_lisL, e_lisO, e_lisB, e_min2, e_max2, e_any, e_all, e_sum, e_sorted, e_rev, e_sl, e_oN, e_isi, e_lc, e_wipe0, e_wipe1, e_iA, e_iAb, e_gAq1, e_gAq2, e_gAq3, e_gAqb1, e_gAqb2, e_gAqb3, e_gAqb4, e_no, e_cCh, e_cChI, e_aug, e_decT, e_decF, e_cDispS, e_cDT, e_cDK, e_cDisp1, e_storeA, e_stR1, e_stR2, e_stR3, e_sd1, e_keyD1, e_keyD2, e_keyTD, e_intsD, e_intsD0, e_borT, e_borT2, e_borK, e_borK2, e_argT, e_argT2, e_argK, e_argK2, e_nbT, e_nbK, e_putT, e_putK, e_gAt1, e_gAt2, e_gAt3, e_gAt4, e_gGetDK, e_gGetDT, e_gIxD, e_gInD, e_gNotInD, e_cGet1, e_cGet2, e_dk1, e_dk2, e_dk3, e_dk4, e_dt1, e_dt2, e_del, atI_zero, e_at1, e_at2, e_at3, e_at4, e_at5, e_at6, e_at7, e_at8, e_at9, e_atm, e_V, e_retV, e_unp, e_app, e_store, e_fzE, oS, rsO_some, Rs.bind_ok, Rs.bind_no, Rs.out_ok, Out.then_nx, Out.then_rt, Out.then_ct, Out.then_bk, fin_rt, fin_nx, List.getElem?_cons_zero, List.getElem?_cons_succ, List.set_cons_succ, List.set_cons_zero, List.length_cons, List.length_nil, Nat.reduceAdd, Nat.reduceLT, Nat.reduceLeDiff, Nat.reduceEqDiff, if_true, if_false, Bool.false_eq_true, Bool.not_true, Bool.not_false, and_self, true_and, and_true, List.map_cons, List.map_nil, Option.map_some, sh_int, sh_bool, sh_none, sh_tup, sh_lst, eqv_int, reduceIte, Option.bind_some, Option.bind_none, kitB_ll, kitB_lt, kitB_tt, kitB_tl, kitB_ii, tyD_list, tyD_int, Bool.true_and, Bool.false_and, Bool.and_true, Bool.and_false, Bool.or_true, Bool.true_or, Bool.false_or, Bool.or_false, Bool.and_self, Bool.or_self, e_cAK, List.append_nil, List.nil_append, List.cons_append, e_andB, e_orB, e_andR, e_orR, tyD_tuple, eqv_bool, eqv_none, tyD_bool, tyD_str, tyD_none, kitB_bb, kitB_nb, kitB_bi, kitB_ib, kitB_nl, kitB_nt, beq_self_eq_true, hk1, e1, Option.isSome_some] at hX
        subst hX
        rfl
      | none =>
        have e1 : dGet (encP T) q = none := by rw [dGet_P, hq]; rfl
        have e2 : dGet (encP T) h = some (.list (p.map .int)) := by rw [dGet_P, hp]; rfl
        simp only [e_nil, e_seq, e_fz, e_bk, e_ct, e_ret, e_retN, e_drop, e_set, e_if, e_for, e_cC, e_c2, e_c1, e_cA, e_aN, e_aC, e_cB, e_asB, e_bNot, e_bAnd, e_bOr, e_vAnd, e_vOr, e_vNot, e_vIf, e_bYes, e_iL, e_iT, e_iLb, e_iR, e_gL1, e_gL2, e_gL3, e_gT, e_gLb1, e_gLb2, e_gLb3, e_gLb4, e_nb1, e_nb2, e_bor1, e_bor2, e_bor3, e_bor4, e_arg1, e_arg2, e_arg3, e_arg4, e_putd, e_puto, e_toD1, e_toD2, e_allD0, e_allD1, e_allD2, e_gTupl, e_gList, e_tgnm, e_tgtp, e_tg0, e_tg1, e_sq1, e_sq2, e_sq3, e_sq4, e_sq5, e_qv2, e_qv3, e_qv4, e_qv5, e_data1, e_data2, e_data3, e_okI, e_okB, e_i2, e_sub, e_mul, e_mod, e_div, e_pow, e_lt, e_le, e_gt, e_ge, e_neg, e_addI, e_addS, e_addT, e_addL1, e_addL2, e_addL3, e_addL4, e_addL5, e_addL6, e_addL7, e_addL8, e_addL9, e_eq, e_ne, e_in, e_notIn, e_inT, e_inT2, e_inL1, e_inL2, e_inL3, e_is, e_isNot, e_isN1, e_isN2, e_isN3, e_isN4, e_isN5, e_isN6, e_isN7, e_ixT, e_ixL, e_ixO, e_ixB, e_ixSc, e_lenT, e_lenL, e_lenO, e_lenB, e_lenSc, e_lenS, e_tupT, e_tupL, e_tupO, e_tupB, e_lisT, e_lisL, e_lisO, e_lisB, e_min2, e_max2, e_any, e_all, e_sum, e_sorted, e_rev, e_sl, e_oN, e_isi, e_lc, e_wipe0, e_wipe1, e_iA, e_iAb, e_gAq1, e_gAq2, e_gAq3, e_gAqb1, e_gAqb2, e_gAqb3, e_gAqb4, e_no, e_cCh, e_cChI, e_aug, e_decT, e_decF, e_cDispS, e_cDT, e_cDK, e_cDisp1, e_storeA, e_stR1, e_stR2, e_stR3, e_sd1, e_keyD1, e_keyD2, e_keyTD, e_intsD, e_intsD0, e_borT, e_borT2, e_borK, e_borK2, e_argT, e_argT2, e_argK, e_argK2, e_nbT, e_nbK, e_putT, e_putK, e_gAt1, e_gAt2, e_gAt3, e_gAt4, e_gGetDK, e_gGetDT, e_gIxD, e_gInD, e_gNotInD, e_cGet1, e_cGet2, e_dk1, e_dk2, e_dk3, e_dk4, e_dt1, e_dt2, e_del, atI_zero, e_at1, e_at2, e_at3, e_at4, e_at5, e_at6, e_at7, e_at8, e_at9, e_atm, e_V, e_retV, e_unp, e_app, e_store, e_fzE, oS, rsO_some, Rs.bind_ok, Rs.bind_no, Rs.out_ok, Out.then_nx, Out.then_rt, Out.then_ct, Out.then_bk, fin_rt, fin_nx, List.getElem?_cons_zero, List.getElem?_cons_succ, List.set_cons_succ, List.set_cons_zero, List.length_cons, List.length_nil, Nat.reduceAdd, Nat.reduceLT, Nat.reduceLeDiff, Nat.reduceEqDiff, if_true, if_false, Bool.false_eq_true, Bool.not_true, Bool.not_false, and_self, true_and, and_true, List.map_cons, List.map_nil, Option.map_some, sh_int, sh_bool, sh_none, sh_tup, sh_lst, eqv_int, reduceIte, Option.bind_some, Option.bind_none, kitB_ll, kitB_lt, kitB_tt, kitB_tl, kitB_ii, tyD_list, tyD_int, Bool.true_and, Bool.false_and, Bool.and_true, Bool.and_false, Bool.or_true, Bool.true_or, Bool.false_or, Bool.or_false, Bool.and_self, Bool.or_self, e_cAK, List.append_nil, List.nil_append, List.cons_append, e_andB, e_orB, e_andR, e_orR, tyD_tuple, eqv_bool, eqv_none, tyD_bool, tyD_str, tyD_none, kitB_bb, kitB_nb, kitB_bi, kitB_ib, kitB_nl, kitB_nt, beq_self_eq_true, hk1, hk2, e1, e2, Option.isSome_none, List.length_map, if_pos hz3, hl, hl2, if_pos hz1] at hX
        subst hX
        have e3 : dPut (encP T) q (.list (p.map .int ++ [.int m])) = encP (T ++ [(q, p ++ [m])]) := by
          rw [dPut_new _ e1]
          unfold encP
          rw [List.map_append]
          simp
        have e4 : encQ T ++ [tupD q] = encQ (T ++ [(q, p ++ [m])]) := by unfold encQ; rw [List.map_append]; rfl
        rw [e3, e4]
        rfl
    simp only [hb, lp_nx]
/-- what the table's rows keep -/
structure Row (us : List (List Int)) (r : Nat) (T : List (List Int × List Int)) (i : Nat) : Prop where
  nodup : (T.map (·.1)).Nodup
  conf : ∀ e ∈ T, e.1.length ≤ 800
  plan : ∀ e ∈ T, e.2.length ≤ i
theorem succM_len (us : List (List Int)) (r : Nat) (h : List Int) : (succM us r h).length ≤ us.length := by
  unfold succM
  rw [List.length_map]
  exact Nat.le_trans (List.length_filter_le _ _) (by simp)
theorem Row.next {us : List (List Int)} {r : Nat} {T : List (List Int × List Int)} {i : Nat} (w : Row us r T i) (hr : r ≤ 800) {e : List Int × List Int} (he : e ∈ T) : Row us r (expB (succM us r) T e.1 e.2) (i + 1) := by
  refine ⟨fold_nodup _ w.nodup, ?_, ?_⟩
  all_goals
    unfold expB
    have : ∀ (es : List (Int × List Int)), (∀ x ∈ es, x ∈ succM us r e.1) → ∀ U : List (List Int × List Int), (∀ f ∈ U, f.1.length ≤ 800 ∧ f.2.length ≤ i + 1) → ∀ f ∈ es.foldl (addB e.2) U, f.1.length ≤ 800 ∧ f.2.length ≤ i + 1 := by
      intro es
      induction es with
      | nil => intro _ U h; exact h
      | cons x es ih =>
        intro hs U h
        refine ih (fun y hy => hs y (List.mem_cons_of_mem _ hy)) _ fun f hf => ?_
        unfold addB at hf
        split at hf
        · exact h f hf
        · rcases List.mem_append.mp hf with hf | hf
          · exact h f hf
          · rw [List.mem_singleton.mp hf]
            obtain ⟨h1, h2⟩ := succM_mem.mp (hs x List.mem_cons_self)
            have := w.plan e he
            refine ⟨?_, by simp; omega⟩
            show x.2.length ≤ 800
            rw [h2]; omega
    have := this (succM us r e.1) (fun _ h => h) T fun f hf => ⟨w.conf f hf, Nat.le_succ_of_le (w.plan f hf)⟩
  · exact fun f hf => (this f hf).1
  · exact fun f hf => (this f hf).2
theorem plan_while (us : List (List Int)) (ts : List Int) (r : Nat) (g : List Int) (st : Option RV) (hu : us.length ≤ 8) (hr8 : r ≤ 800) (n : Nat) : ∀ (k : Nat) (T : List (List Int × List Int)) (i : Nat) (e7 e8 e9 : Option RV), Row us r T i → (runB (succM us r) k T i).length ≤ 1000 → (runB (succM us r) k T i).length < k + i → i ≤ T.length →
    match seekB (succM us r) g k T i with
    | some p => loopW (cB (c2 gLt (cV 6) (cA gLen (aC (cV 5) aN)))) L1_shortest_plan (k + n) [some (.d (encT us ts)), some (.d (.int r)), st, some (.d (tupD g)), some (.ot (encP T)), some (.ol (encQ T)), some (.d (.int i)), e7, e8, e9] = .rt (.d (.list (p.map .int)))
    | none => ∃ env', loopW (cB (c2 gLt (cV 6) (cA gLen (aC (cV 5) aN)))) L1_shortest_plan (k + n) [some (.d (encT us ts)), some (.d (.int r)), st, some (.d (tupD g)), some (.ot (encP T)), some (.ol (encQ T)), some (.d (.int i)), e7, e8, e9] = .nx env'
  | 0, T, i, e7, e8, e9, w, hz, hf, hi => by
    unfold runB at hf
    omega
  | k + 1, T, i, e7, e8, e9, w, hz, hf, hi => by
    have hq : (encQ T).length = T.length := List.length_map ..
    rw [show k + 1 + n = (k + n) + 1 by omega, loopW_succ]
    unfold seekB
    cases e : T[i]? with
    | none =>
      have hge : T.length ≤ i := List.getElem?_eq_none_iff.mp e
      have hdec : decide ((i : Int) < (T.length : Int)) = false := decide_eq_false (by omega)
      simp only [e_nil, e_seq, e_fz, e_bk, e_ct, e_ret, e_retN, e_drop, e_set, e_if, e_for, e_cC, e_c2, e_c1, e_cA, e_aN, e_aC, e_cB, e_asB, e_bNot, e_bAnd, e_bOr, e_vAnd, e_vOr, e_vNot, e_vIf, e_bYes, e_iL, e_iT, e_iLb, e_iR, e_gL1, e_gL2, e_gL3, e_gT, e_gLb1, e_gLb2, e_gLb3, e_gLb4, e_nb1, e_nb2, e_bor1, e_bor2, e_bor3, e_bor4, e_arg1, e_arg2, e_arg3, e_arg4, e_putd, e_puto, e_toD1, e_toD2, e_allD0, e_allD1, e_allD2, e_gTupl, e_gList, e_tgnm, e_tgtp, e_tg0, e_tg1, e_sq1, e_sq2, e_sq3, e_sq4, e_sq5, e_qv2, e_qv3, e_qv4, e_qv5, e_data1, e_data2, e_data3, e_okI, e_okB, e_i2, e_sub, e_mul, e_mod, e_div, e_pow, e_lt, e_le, e_gt, e_ge, e_neg, e_addI, e_addS, e_addT, e_addL1, e_addL2, e_addL3, e_addL4, e_addL5, e_addL6, e_addL7, e_addL8, e_addL9, e_eq, e_ne, e_in, e_notIn, e_inT, e_inT2, e_inL1, e_inL2, e_inL3, e_is, e_isNot, e_isN1, e_isN2, e_isN3, e_isN4, e_isN5, e_isN6, e_isN7, e_ixT, e_ixL, e_ixO, e_ixB, e_ixSc, e_lenT, e_lenL, e_lenO, e_lenB, e_lenSc, e_lenS, e_tupT, e_tupL, e_tupO, e_tupB, e_lisT, e_lisL, e_lisO, e_lisB, e_min2, e_max2, e_any, e_all, e_sum, e_sorted, e_rev, e_sl, e_oN, e_isi, e_lc, e_wipe0, e_wipe1, e_iA, e_iAb, e_gAq1, e_gAq2, e_gAq3, e_gAqb1, e_gAqb2, e_gAqb3, e_gAqb4, e_no, e_cCh, e_cChI, e_aug, e_decT, e_decF, e_cDispS, e_cDT, e_cDK, e_cDisp1, e_storeA, e_stR1, e_stR2, e_stR3, e_sd1, e_keyD1, e_keyD2, e_keyTD, e_intsD, e_intsD0, e_borT, e_borT2, e_borK, e_borK2, e_argT, e_argT2, e_argK, e_argK2, e_nbT, e_nbK, e_putT, e_putK, e_gAt1, e_gAt2, e_gAt3, e_gAt4, e_gGetDK, e_gGetDT, e_gIxD, e_gInD, e_gNotInD, e_cGet1, e_cGet2, e_dk1, e_dk2, e_dk3, e_dk4, e_dt1, e_dt2, e_del, atI_zero, e_at1, e_at2, e_at3, e_at4, e_at5, e_at6, e_at7, e_at8, e_at9, e_atm, e_V, e_retV, e_unp, e_app, e_store, e_fzE, oS, rsO_some, Rs.bind_ok, Rs.bind_no, Rs.out_ok, Out.then_nx, Out.then_rt, Out.then_ct, Out.then_bk, fin_rt, fin_nx, List.getElem?_cons_zero, List.getElem?_cons_succ, List.set_cons_succ, List.set_cons_zero, List.length_cons, List.length_nil, Nat.reduceAdd, Nat.reduceLT, Nat.reduceLeDiff, Nat.reduceEqDiff, if_true, if_false, Bool.false_eq_true, Bool.not_true, Bool.not_false, and_self, true_and, and_true, List.map_cons, List.map_nil, Option.map_some, sh_int, sh_bool, sh_none, sh_tup, sh_lst, eqv_int, reduceIte, Option.bind_some, Option.bind_none, kitB_ll, kitB_lt, kitB_tt, kitB_tl, kitB_ii, tyD_list, tyD_int, Bool.true_and, Bool.false_and, Bool.and_true, Bool.and_false, Bool.or_true, Bool.true_or, Bool.false_or, Bool.or_false, Bool.and_self, Bool.or_self, e_cAK, List.append_nil, List.nil_append, List.cons_append, e_andB, e_orB, e_andR, e_orR, tyD_tuple, eqv_bool, eqv_none, tyD_bool, tyD_str, tyD_none, kitB_bb, kitB_nb, kitB_bi, kitB_ib, kitB_nl, kitB_nt, beq_self_eq_true, hq, hdec]
      exact ⟨_, rfl⟩
    | some f =>
      have hil := (List.getElem?_eq_some_iff.mp e).1
      have hdec : decide ((i : Int) < (T.length : Int)) = true := decide_eq_true (by omega)
      have hmem := List.mem_of_getElem? e
      have hfp : tget T f.1 = some f.2 := tget_of w.nodup hmem
      have hfc := w.conf f hmem
      have hfl := w.plan f hmem
      unfold runB at hz hf
      rw [e] at hz hf
      simp only at hz hf
      have pre := expB_pre (succ := succM us r) T f.1 f.2
      have pre2 := runB_pre (succ := succM us r) k (expB (succM us r) T f.1 f.2) (i + 1)
      have hT1 := pre.length_le
      have hT2 := pre2.length_le
      have hix : atI (encQ T) (i : Int) = some (tupD f.1) := by
        rw [atI_lt (by omega) (by rw [hq]; omega)]
        unfold encQ
        rw [List.getElem?_map, show ((i : Int)).toNat = i by omega, e]
        rfl
      have heq : PyData.eqv (tupD f.1) (tupD g) = decide (f.1 = g) := eqv_tup _ _
      have hk : keyTD (tupD f.1) = some f.1 := intsD_map _
      have hget : dGet (encP T) f.1 = some (.list (f.2.map .int)) := by rw [dGet_P, hfp]; rfl
      have sh1 : SeqAt.shaped (tupD f.1) = true := sh_tup _
      have sh2 : SeqAt.shaped (tupD g) = true := sh_tup _
      simp only [e_nil, e_seq, e_fz, e_bk, e_ct, e_ret, e_retN, e_drop, e_set, e_if, e_for, e_cC, e_c2, e_c1, e_cA, e_aN, e_aC, e_cB, e_asB, e_bNot, e_bAnd, e_bOr, e_vAnd, e_vOr, e_vNot, e_vIf, e_bYes, e_iL, e_iT, e_iLb, e_iR, e_gL1, e_gL2, e_gL3, e_gT, e_gLb1, e_gLb2, e_gLb3, e_gLb4, e_nb1, e_nb2, e_bor1, e_bor2, e_bor3, e_bor4, e_arg1, e_arg2, e_arg3, e_arg4, e_putd, e_puto, e_toD1, e_toD2, e_allD0, e_allD1, e_allD2, e_gTupl, e_gList, e_tgnm, e_tgtp, e_tg0, e_tg1, e_sq1, e_sq2, e_sq3, e_sq4, e_sq5, e_qv2, e_qv3, e_qv4, e_qv5, e_data1, e_data2, e_data3, e_okI, e_okB, e_i2, e_sub, e_mul, e_mod, e_div, e_pow, e_lt, e_le, e_gt, e_ge, e_neg, e_addI, e_addS, e_addT, e_addL1, e_addL2, e_addL3, e_addL4, e_addL5, e_addL6, e_addL7, e_addL8, e_addL9, e_eq, e_ne, e_in, e_notIn, e_inT, e_inT2, e_inL1, e_inL2, e_inL3, e_is, e_isNot, e_isN1, e_isN2, e_isN3, e_isN4, e_isN5, e_isN6, e_isN7, e_ixT, e_ixL, e_ixO, e_ixB, e_ixSc, e_lenT, e_lenL, e_lenO, e_lenB, e_lenSc, e_lenS, e_tupT, e_tupL, e_tupO, e_tupB, e_lisT, e_lisL, e_lisO, e_lisB, e_min2, e_max2, e_any, e_all, e_sum, e_sorted, e_rev, e_sl, e_oN, e_isi, e_lc, e_wipe0, e_wipe1, e_iA, e_iAb, e_gAq1, e_gAq2, e_gAq3, e_gAqb1, e_gAqb2, e_gAqb3, e_gAqb4, e_no, e_cCh, e_cChI, e_aug, e_decT, e_decF, e_cDispS, e_cDT, e_cDK, e_cDisp1, e_storeA, e_stR1, e_stR2, e_stR3, e_sd1, e_keyD1, e_keyD2, e_keyTD, e_intsD, e_intsD0, e_borT, e_borT2, e_borK, e_borK2, e_argT, e_argT2, e_argK, e_argK2, e_nbT, e_nbK, e_putT, e_putK, e_gAt1, e_gAt2, e_gAt3, e_gAt4, e_gGetDK, e_gGetDT, e_gIxD, e_gInD, e_gNotInD, e_cGet1, e_cGet2, e_dk1, e_dk2, e_dk3, e_dk4, e_dt1, e_dt2, e_del, atI_zero, e_at1, e_at2, e_at3, e_at4, e_at5, e_at6, e_at7, e_at8, e_at9, e_atm, e_V, e_retV, e_unp, e_app, e_store, e_fzE, oS, rsO_some, Rs.bind_ok, Rs.bind_no, Rs.out_ok, Out.then_nx, Out.then_rt, Out.then_ct, Out.then_bk, fin_rt, fin_nx, List.getElem?_cons_zero, List.getElem?_cons_succ, List.set_cons_succ, List.set_cons_zero, List.length_cons, List.length_nil, Nat.reduceAdd, Nat.reduceLT, Nat.reduceLeDiff, Nat.reduceEqDiff, if_true, if_false, Bool.false_eq_true, Bool.not_true, Bool.not_false, and_self, true_and, and_true, List.map_cons, List.map_nil, Option.map_some, sh_int, sh_bool, sh_none, sh_tup, sh_lst, eqv_int, reduceIte, Option.bind_some, Option.bind_none, kitB_ll, kitB_lt, kitB_tt, kitB_tl, kitB_ii, tyD_list, tyD_int, Bool.true_and, Bool.false_and, Bool.and_true, Bool.and_false, Bool.or_true, Bool.true_or, Bool.false_or, Bool.or_false, Bool.and_self, Bool.or_self, e_cAK, List.append_nil, List.nil_append, List.cons_append, e_andB, e_orB, e_andR, e_orR, tyD_tuple, eqv_bool, eqv_none, tyD_bool, tyD_str, tyD_none, kitB_bb, kitB_nb, kitB_bi, kitB_ib, kitB_nl, kitB_nt, beq_self_eq_true, hq, hdec]
      by_cases c : f.1 = g
      · rw [if_pos c]
        simp only
        generalize hX : L1_shortest_plan _ = X
        unfold L1_shortest_plan at hX
        simp only [e_nil, e_seq, e_fz, e_bk, e_ct, e_ret, e_retN, e_drop, e_set, e_if, e_for, e_cC, e_c2, e_c1, e_cA, e_aN, e_aC, e_cB, e_asB, e_bNot, e_bAnd, e_bOr, e_vAnd, e_vOr, e_vNot, e_vIf, e_bYes, e_iL, e_iT, e_iLb, e_iR, e_gL1, e_gL2, e_gL3, e_gT, e_gLb1, e_gLb2, e_gLb3, e_gLb4, e_nb1, e_nb2, e_bor1, e_bor2, e_bor3, e_bor4, e_arg1, e_arg2, e_arg3, e_arg4, e_putd, e_puto, e_toD1, e_toD2, e_allD0, e_allD1, e_allD2, e_gTupl, e_gList, e_tgnm, e_tgtp, e_tg0, e_tg1, e_sq1, e_sq2, e_sq3, e_sq4, e_sq5, e_qv2, e_qv3, e_qv4, e_qv5, e_data1, e_data2, e_data3, e_okI, e_okB, e_i2, e_sub, e_mul, e_mod, e_div, e_pow, e_lt, e_le, e_gt, e_ge, e_neg, e_addI, e_addS, e_addT, e_addL1, e_addL2, e_addL3, e_addL4, e_addL5, e_addL6, e_addL7, e_addL8, e_addL9, e_eq, e_ne, e_in, e_notIn, e_inT, e_inT2, e_inL1, e_inL2, e_inL3, e_is, e_isNot, e_isN1, e_isN2, e_isN3, e_isN4, e_isN5, e_isN6, e_isN7, e_ixT, e_ixL, e_ixO, e_ixB, e_ixSc, e_lenT, e_lenL, e_lenO, e_lenB, e_lenSc, e_lenS, e_tupT, e_tupL, e_tupO, e_tupB, e_lisT, e_lisL, e_lisO, e_lisB, e_min2, e_max2, e_any, e_all, e_sum, e_sorted, e_rev, e_sl, e_oN, e_isi, e_lc, e_wipe0, e_wipe1, e_iA, e_iAb, e_gAq1, e_gAq2, e_gAq3, e_gAqb1, e_gAqb2, e_gAqb3, e_gAqb4, e_no, e_cCh, e_cChI, e_aug, e_decT, e_decF, e_cDispS, e_cDT, e_cDK, e_cDisp1, e_storeA, e_stR1, e_stR2, e_stR3, e_sd1, e_keyD1, e_keyD2, e_keyTD, e_intsD, e_intsD0, e_borT, e_borT2, e_borK, e_borK2, e_argT, e_argT2, e_argK, e_argK2, e_nbT, e_nbK, e_putT, e_putK, e_gAt1, e_gAt2, e_gAt3, e_gAt4, e_gGetDK, e_gGetDT, e_gIxD, e_gInD, e_gNotInD, e_cGet1, e_cGet2, e_dk1, e_dk2, e_dk3, e_dk4, e_dt1, e_dt2, e_del, atI_zero, e_at1, e_at2, e_at3, e_at4, e_at5, e_at6, e_at7, e_at8, e_at9, e_atm, e_V, e_retV, e_unp, e_app, e_store, e_fzE, oS, rsO_some, Rs.bind_ok, Rs.bind_no, Rs.out_ok, Out.then_nx, Out.then_rt, Out.then_ct, Out.then_bk, fin_rt, fin_nx, List.getElem?_cons_zero, List.getElem?_cons_succ, List.set_cons_succ, List.set_cons_zero, List.length_cons, List.length_nil, Nat.reduceAdd, Nat.reduceLT, Nat.reduceLeDiff, Nat.reduceEqDiff, if_true, if_false, Bool.false_eq_true, Bool.not_true, Bool.not_false, and_self, true_and, and_true, List.map_cons, List.map_nil, Option.map_some, sh_int, sh_bool, sh_none, sh_tup, sh_lst, eqv_int, reduceIte, Option.bind_some, Option.bind_none, kitB_ll, kitB_lt, kitB_tt, kitB_tl, kitB_ii, tyD_list, tyD_int, Bool.true_and, Bool.false_and, Bool.and_true, Bool.and_false, Bool.or_true, Bool.true_or, Bool.false_or, Bool.or_false, Bool.and_self, Bool.or_self, e_cAK, List.append_nil, List.nil_append, List.cons_append, e_andB, e_orB, e_andR, e_orR, tyD_tuple, eqv_bool, eqv_none, tyD_bool, tyD_str, tyD_none, kitB_bb, kitB_nb, kitB_bi, kitB_ib, kitB_nl, kitB_nt, beq_self_eq_true, hix, heq, decide_eq_true c, sh1, sh2, hk, hget] at hX
        subst hX
        rfl
      · rw [if_neg c]
        have htr := trans_ok us ts f.1 r (by omega) (by omega)
        obtain ⟨e8', e9', hin⟩ := plan_in (some (.d (encT us ts))) (some (.d (.int r))) st (some (.d (tupD g))) (.int ((i : Int) + 1)) f.1 f.2 (succM us r f.1) T e8 e9 hfp (by have := succM_len us r f.1; omega) (by omega)
        have ih := plan_while us ts r g st hu hr8 n k (expB (succM us r) T f.1 f.2) (i + 1) (some (.d (tupD f.1))) e8' e9' (w.next hr8 hmem) hz (by omega) (by omega)
        have hb : L1_shortest_plan [some (.d (encT us ts)), some (.d (.int r)), st, some (.d (tupD g)), some (.ot (encP T)), some (.ol (encQ T)), some (.d (.int i)), e7, e8, e9] = .nx [some (.d (encT us ts)), some (.d (.int r)), st, some (.d (tupD g)), some (.ot (encP (expB (succM us r) T f.1 f.2))), some (.ol (encQ (expB (succM us r) T f.1 f.2))), some (.d (.int ((i : Int) + 1))), some (.d (tupD f.1)), e8', e9'] := by
          generalize hX : L1_shortest_plan _ = X
          unfold L1_shortest_plan at hX
          simp only [e_nil, e_seq, e_fz, e_bk, e_ct, e_ret, e_retN, e_drop, e_set, e_if, e_for, e_cC, e_c2, e_c1, e_cA, e_aN, e_aC, e_cB, e_asB, e_bNot, e_bAnd, e_bOr, e_vAnd, e_vOr, e_vNot, e_vIf, e_bYes, e_iL, e_iT, e_iLb, e_iR, e_gL1, e_gL2, e_gL3, e_gT, e_gLb1, e_gLb2, e_gLb3, e_gLb4, e_nb1, e_nb2, e_bor1, e_bor2, e_bor3, e_bor4, e_arg1, e_arg2, e_arg3, e_arg4, e_putd, e_puto, e_toD1, e_toD2, e_allD0, e_allD1, e_allD2, e_gTupl, e_gList, e_tgnm, e_tgtp, e_tg0, e_tg1, e_sq1, e_sq2, e_sq3, e_sq4, e_sq5, e_qv2, e_qv3, e_qv4, e_qv5, e_data1, e_data2, e_data3, e_okI, e_okB, e_i2, e_sub, e_mul, e_mod, e_div, e_pow, e_lt, e_le, e_gt, e_ge, e_neg, e_addI, e_addS, e_addT, e_addL1, e_addL2, e_addL3, e_addL4, e_addL5, e_addL6, e_addL7, e_addL8, e_addL9, e_eq, e_ne, e_in, e_notIn, e_inT, e_inT2, e_inL1, e_inL2, e_inL3, e_is, e_isNot, e_isN1, e_isN2, e_isN3, e_isN4, e_isN5, e_isN6, e_isN7, e_ixT, e_ixL, e_ixO, e_ixB, e_ixSc, e_lenT, e_lenL, e_lenO, e_lenB, e_lenSc, e_lenS, e_tupT, e_tupL, e_tupO, e_tupB, e_lisT, e_lisL, e_lisO, e_lisB, e_min2, e_max2, e_any, e_all, e_sum, e_sorted, e_rev, e_sl, e_oN, e_isi, e_lc, e_wipe0, e_wipe1, e_iA, e_iAb, e_gAq1, e_gAq2, e_gAq3, e_gAqb1, e_gAqb2, e_gAqb3, e_gAqb4, e_no, e_cCh, e_cChI, e_aug, e_decT, e_decF, e_cDispS, e_cDT, e_cDK, e_cDisp1, e_storeA, e_stR1, e_stR2, e_stR3, e_sd1, e_keyD1, e_keyD2, e_keyTD, e_intsD, e_intsD0, e_borT, e_borT2, e_borK, e_borK2, e_argT, e_argT2, e_argK, e_argK2, e_nbT, e_nbK, e_putT, e_putK, e_gAt1, e_gAt2, e_gAt3, e_gAt4, e_gGetDK, e_gGetDT, e_gIxD, e_gInD, e_gNotInD, e_cGet1, e_cGet2, e_dk1, e_dk2, e_dk3, e_dk4, e_dt1, e_dt2, e_del, atI_zero, e_at1, e_at2, e_at3, e_at4, e_at5, e_at6, e_at7, e_at8, e_at9, e_atm, e_V, e_retV, e_unp, e_app, e_store, e_fzE, oS, rsO_some, Rs.bind_ok, Rs.bind_no, Rs.out_ok, Out.then_nx, Out.then_rt, Out.then_ct, Out.then_bk, fin_rt, fin_nx, List.getElem?_cons_zero, List.getElem?_cons_succ, List.set_cons_succ, List.set_cons_zero, List.length_cons, List.length_nil, Nat.reduceAdd, Nat.reduceLT, Nat.reduceLeDiff, Nat.reduceEqDiff, if_true, if_false, Bool.false_eq_true, Bool.not_true, Bool.not_false, and_self, true_and, and_true, List.map_cons, List.map_nil, Option.map_some, sh_int, sh_bool, sh_none, sh_tup, sh_lst, eqv_int, reduceIte, Option.bind_some, Option.bind_none, kitB_ll, kitB_lt, kitB_tt, kitB_tl, kitB_ii, tyD_list, tyD_int, Bool.true_and, Bool.false_and, Bool.and_true, Bool.and_false, Bool.or_true, Bool.true_or, Bool.false_or, Bool.or_false, Bool.and_self, Bool.or_self, e_cAK, List.append_nil, List.nil_append, List.cons_append, e_andB, e_orB, e_andR, e_orR, tyD_tuple, eqv_bool, eqv_none, tyD_bool, tyD_str, tyD_none, kitB_bb, kitB_nb, kitB_bi, kitB_ib, kitB_nl, kitB_nt, beq_self_eq_true, hix, heq, decide_eq_false c, sh1, sh2, htr, e_iA, hin] at hX
          subst hX
          rfl
        rw [hb, lp_nx]
        exact ih
theorem e_while (n : Nat) (c : VEnv → Rs Bool) (f : VEnv → Out) (env : VEnv) : sWhile n c f env = loopW c f n env := rfl
def planO : Option (List Int) → PyData
  | some p => .list (p.map .int)
  | none => .none
theorem row_first (us : List (List Int)) (r : Nat) (st : List Int) (h : st.length ≤ 800) : Row us r [(st, [])] 0 :=
  ⟨by simp, fun e he => by rw [List.mem_singleton.mp he]; exact h, fun e he => by rw [List.mem_singleton.mp he]; simp⟩
def within (st : List Int) (r : Nat) (o : Option (List Int)) : Option (List Int) := if st.length ≤ r then o else none
theorem shortest_ok (us : List (List Int)) (ts st g : List Int) (r : Nat) (gd : PyData) (hg : (gd = .none ∧ g = ts) ∨ gd = tupD g) (hu : us.length ≤ 8) (hr8 : r ≤ 800) (hst : st.length ≤ 800) (hc : Cf us.length st) :
    F_shortest_plan [.d (encT us ts), .d (.int r), .d (tupD st), .d gd] = .ok (.d (planO (within st r (planM us r st g)))) := by
  have h1 : gIx (.d (encT us ts)) (.d (.int 1)) = .ok (.d (tupD ts)) := rfl
  have hln : gLen [.d (tupD st)] = .ok (.d (.int st.length)) := by rw [tupD, e_lenT, List.length_map]
  have hk : keyTD (tupD st) = some st := intsD_map st
  have hw := plan_while us ts r g (some (.d (tupD st))) hu hr8 99700 300 [(st, [])] 0 none none none (row_first us r st hst) (by have := (tabM_ok (r := r) hu hc).2; unfold tabM at this; omega) (by have := (tabM_ok (r := r) hu hc).2; unfold tabM at this; omega) (by simp)
  rw [planM_seek g hu hc] at hw
  have s1 : (sIf (cB (c2 gIs (cV 3) (cC .none))) (sSet 3 (c2 gIx (cV 0) (cC (.int 1)))) sNil) [some (.d (encT us ts)), some (.d (.int r)), some (.d (tupD st)), some (.d gd), none, none, none, none, none, none] = .nx [some (.d (encT us ts)), some (.d (.int r)), some (.d (tupD st)), some (.d (tupD g)), none, none, none, none, none, none] := by
    rcases hg with ⟨rfl, rfl⟩ | rfl
    · simp only [e_nil, e_seq, e_fz, e_bk, e_ct, e_ret, e_retN, e_drop, e_set, e_if, e_for, e_cC, e_c2, e_c1, e_cA, e_aN, e_aC, e_cB, e_asB, e_bNot, e_bAnd, e_bOr, e_vAnd, e_vOr, e_vNot, e_vIf, e_bYes, e_iL, e_iT, e_iLb, e_iR, e_gL1, e_gL2, e_gL3, e_gT, e_gLb1, e_gLb2, e_gLb3, e_gLb4, e_nb1, e_nb2, e_bor1, e_bor2, e_bor3, e_bor4, e_arg1, e_arg2, e_arg3, e_arg4, e_putd, e_puto, e_toD1, e_toD2, e_allD0, e_allD1, e_allD2, e_gTupl, e_gList, e_tgnm, e_tgtp, e_tg0, e_tg1, e_sq1, e_sq2, e_sq3, e_sq4, e_sq5, e_qv2, e_qv3, e_qv4, e_qv5, e_data1, e_data2, e_data3, e_okI, e_okB, e_i2, e_sub, e_mul, e_mod, e_div, e_pow, e_lt, e_le, e_gt, e_ge, e_neg, e_addI, e_addS, e_addT, e_addL1, e_addL2, e_addL3, e_addL4, e_addL5, e_addL6, e_addL7, e_addL8, e_addL9, e_eq, e_ne, e_in, e_notIn, e_inT, e_inT2, e_inL1, e_inL2, e_inL3, e_is, e_isNot, e_isN1, e_isN2, e_isN3, e_isN4, e_isN5, e_isN6, e_isN7, e_ixT, e_ixL, e_ixO, e_ixB, e_ixSc, e_lenT, e_lenL, e_lenO, e_lenB, e_lenSc, e_lenS, e_tupT, e_tupL, e_tupO, e_tupB, e_lisT, e_lisL, e_lisO, e_lisB, e_min2, e_max2, e_any, e_all, e_sum, e_sorted, e_rev, e_sl, e_oN, e_isi, e_lc, e_wipe0, e_wipe1, e_iA, e_iAb, e_gAq1, e_gAq2, e_gAq3, e_gAqb1, e_gAqb2, e_gAqb3, e_gAqb4, e_no, e_cCh, e_cChI, e_aug, e_decT, e_decF, e_cDispS, e_cDT, e_cDK, e_cDisp1, e_storeA, e_stR1, e_stR2, e_stR3, e_sd1, e_keyD1, e_keyD2, e_keyTD, e_intsD, e_intsD0, e_borT, e_borT2, e_borK, e_borK2, e_argT, e_argT2, e_argK, e_argK2, e_nbT, e_nbK, e_putT, e_putK, e_gAt1, e_gAt2, e_gAt3, e_gAt4, e_gGetDK, e_gGetDT, e_gIxD, e_gInD, e_gNotInD, e_cGet1, e_cGet2, e_dk1, e_dk2, e_dk3, e_dk4, e_dt1, e_dt2, e_del, atI_zero, e_at1, e_at2, e_at3, e_at4, e_at5, e_at6, e_at7, e_at8, e_at9, e_atm, e_V, e_retV, e_unp, e_app, e_store, e_fzE, oS, rsO_some, Rs.bind_ok, Rs.bind_no, Rs.out_ok, Out.then_nx, Out.then_rt, Out.then_ct, Out.then_bk, fin_rt, fin_nx, List.getElem?_cons_zero, List.getElem?_cons_succ, List.set_cons_succ, List.set_cons_zero, List.length_cons, List.length_nil, Nat.reduceAdd, Nat.reduceLT, Nat.reduceLeDiff, Nat.reduceEqDiff, if_true, if_false, Bool.false_eq_true, Bool.not_true, Bool.not_false, and_self, true_and, and_true, List.map_cons, List.map_nil, Option.map_some, sh_int, sh_bool, sh_none, sh_tup, sh_lst, eqv_int, reduceIte, Option.bind_some, Option.bind_none, kitB_ll, kitB_lt, kitB_tt, kitB_tl, kitB_ii, tyD_list, tyD_int, Bool.true_and, Bool.false_and, Bool.and_true, Bool.and_false, Bool.or_true, Bool.true_or, Bool.false_or, Bool.or_false, Bool.and_self, Bool.or_self, e_cAK, List.append_nil, List.nil_append, List.cons_append, e_andB, e_orB, e_andR, e_orR, tyD_tuple, eqv_bool, eqv_none, tyD_bool, tyD_str, tyD_none, kitB_bb, kitB_nb, kitB_bi, kitB_ib, kitB_nl, kitB_nt, beq_self_eq_true, h1]
    · rfl
  show (sSeq _ _ [some (.d (encT us ts)), some (.d (.int r)), some (.d (tupD st)), some (.d gd), none, none, none, none, none, none]).fin = _
  rw [e_seq, s1]
  unfold within
  by_cases c : st.length ≤ r
  · have hdec : decide ((r : Int) < (st.length : Int)) = false := decide_eq_false (by omega)
    rw [if_pos c]
    have e0 : encP [(st, [])] = [(st, .list [])] := rfl
    have q0 : encQ [(st, [])] = [tupD st] := rfl
    rw [e0, q0] at hw
    cases hp : planM us r st g with
    | some p =>
      rw [hp] at hw
      simp only at hw
      have hw : loopW (cB (c2 gLt (cV 6) (cA gLen (aC (cV 5) aN)))) L1_shortest_plan 100000 [some (.d (encT us ts)), some (.d (.int r)), some (.d (tupD st)), some (.d (tupD g)), some (.ot [(st, .list [])]), some (.ol [tupD st]), some (.d (.int 0)), none, none, none] = .rt (.d (.list (p.map .int))) := hw
      simp only [e_nil, e_seq, e_fz, e_bk, e_ct, e_ret, e_retN, e_drop, e_set, e_if, e_for, e_cC, e_c2, e_c1, e_cA, e_aN, e_aC, e_cB, e_asB, e_bNot, e_bAnd, e_bOr, e_vAnd, e_vOr, e_vNot, e_vIf, e_bYes, e_iL, e_iT, e_iLb, e_iR, e_gL1, e_gL2, e_gL3, e_gT, e_gLb1, e_gLb2, e_gLb3, e_gLb4, e_nb1, e_nb2, e_bor1, e_bor2, e_bor3, e_bor4, e_arg1, e_arg2, e_arg3, e_arg4, e_putd, e_puto, e_toD1, e_toD2, e_allD0, e_allD1, e_allD2, e_gTupl, e_gList, e_tgnm, e_tgtp, e_tg0, e_tg1, e_sq1, e_sq2, e_sq3, e_sq4, e_sq5, e_qv2, e_qv3, e_qv4, e_qv5, e_data1, e_data2, e_data3, e_okI, e_okB, e_i2, e_sub, e_mul, e_mod, e_div, e_pow, e_lt, e_le, e_gt, e_ge, e_neg, e_addI, e_addS, e_addT, e_addL1, e_addL2, e_addL3, e_addL4, e_addL5, e_addL6, e_addL7, e_addL8, e_addL9, e_eq, e_ne, e_in, e_notIn, e_inT, e_inT2, e_inL1, e_inL2, e_inL3, e_is, e_isNot, e_isN1, e_isN2, e_isN3, e_isN4, e_isN5, e_isN6, e_isN7, e_ixT, e_ixL, e_ixO, e_ixB, e_ixSc, e_lenT, e_lenL, e_lenO, e_lenB, e_lenSc, e_lenS, e_tupT, e_tupL, e_tupO, e_tupB, e_lisT, e_lisL, e_lisO, e_lisB, e_min2, e_max2, e_any, e_all, e_sum, e_sorted, e_rev, e_sl, e_oN, e_isi, e_lc, e_wipe0, e_wipe1, e_iA, e_iAb, e_gAq1, e_gAq2, e_gAq3, e_gAqb1, e_gAqb2, e_gAqb3, e_gAqb4, e_no, e_cCh, e_cChI, e_aug, e_decT, e_decF, e_cDispS, e_cDT, e_cDK, e_cDisp1, e_storeA, e_stR1, e_stR2, e_stR3, e_sd1, e_keyD1, e_keyD2, e_keyTD, e_intsD, e_intsD0, e_borT, e_borT2, e_borK, e_borK2, e_argT, e_argT2, e_argK, e_argK2, e_nbT, e_nbK, e_putT, e_putK, e_gAt1, e_gAt2, e_gAt3, e_gAt4, e_gGetDK, e_gGetDT, e_gIxD, e_gInD, e_gNotInD, e_cGet1, e_cGet2, e_dk1, e_dk2, e_dk3, e_dk4, e_dt1, e_dt2, e_del, atI_zero, e_at1, e_at2, e_at3, e_at4, e_at5, e_at6, e_at7, e_at8, e_at9, e_atm, e_V, e_retV, e_unp, e_app, e_store, e_fzE, oS, rsO_some, Rs.bind_ok, Rs.bind_no, Rs.out_ok, Out.then_nx, Out.then_rt, Out.then_ct, Out.then_bk, fin_rt, fin_nx, List.getElem?_cons_zero, List.getElem?_cons_succ, List.set_cons_succ, List.set_cons_zero, List.length_cons, List.length_nil, Nat.reduceAdd, Nat.reduceLT, Nat.reduceLeDiff, Nat.reduceEqDiff, if_true, if_false, Bool.false_eq_true, Bool.not_true, Bool.not_false, and_self, true_and, and_true, List.map_cons, List.map_nil, Option.map_some, sh_int, sh_bool, sh_none, sh_tup, sh_lst, eqv_int, reduceIte, Option.bind_some, Option.bind_none, kitB_ll, kitB_lt, kitB_tt, kitB_tl, kitB_ii, tyD_list, tyD_int, Bool.true_and, Bool.false_and, Bool.and_true, Bool.and_false, Bool.or_true, Bool.true_or, Bool.false_or, Bool.or_false, Bool.and_self, Bool.or_self, e_cAK, List.append_nil, List.nil_append, List.cons_append, e_andB, e_orB, e_andR, e_orR, tyD_tuple, eqv_bool, eqv_none, tyD_bool, tyD_str, tyD_none, kitB_bb, kitB_nb, kitB_bi, kitB_ib, kitB_nl, kitB_nt, beq_self_eq_true, hln, hdec, hk, e_while, hw]
      rfl
    | none =>
      rw [hp] at hw
      simp only at hw
      obtain ⟨env', hw⟩ := hw
      have hw : loopW (cB (c2 gLt (cV 6) (cA gLen (aC (cV 5) aN)))) L1_shortest_plan 100000 [some (.d (encT us ts)), some (.d (.int r)), some (.d (tupD st)), some (.d (tupD g)), some (.ot [(st, .list [])]), some (.ol [tupD st]), some (.d (.int 0)), none, none, none] = .nx env' := hw
      simp only [e_nil, e_seq, e_fz, e_bk, e_ct, e_ret, e_retN, e_drop, e_set, e_if, e_for, e_cC, e_c2, e_c1, e_cA, e_aN, e_aC, e_cB, e_asB, e_bNot, e_bAnd, e_bOr, e_vAnd, e_vOr, e_vNot, e_vIf, e_bYes, e_iL, e_iT, e_iLb, e_iR, e_gL1, e_gL2, e_gL3, e_gT, e_gLb1, e_gLb2, e_gLb3, e_gLb4, e_nb1, e_nb2, e_bor1, e_bor2, e_bor3, e_bor4, e_arg1, e_arg2, e_arg3, e_arg4, e_putd, e_puto, e_toD1, e_toD2, e_allD0, e_allD1, e_allD2, e_gTupl, e_gList, e_tgnm, e_tgtp, e_tg0, e_tg1, e_sq1, e_sq2, e_sq3, e_sq4, e_sq5, e_qv2, e_qv3, e_qv4, e_qv5, e_data1, e_data2, e_data3, e_okI, e_okB, e_i2, e_sub, e_mul, e_mod, e_div, e_pow, e_lt, e_le, e_gt, e_ge, e_neg, e_addI, e_addS, e_addT, e_addL1, e_addL2, e_addL3, e_addL4, e_addL5, e_addL6, e_addL7, e_addL8, e_addL9, e_eq, e_ne, e_in, e_notIn, e_inT, e_inT2, e_inL1, e_inL2, e_inL3, e_is, e_isNot, e_isN1, e_isN2, e_isN3, e_isN4, e_isN5, e_isN6, e_isN7, e_ixT, e_ixL, e_ixO, e_ixB, e_ixSc, e_lenT, e_lenL, e_lenO, e_lenB, e_lenSc, e_lenS, e_tupT, e_tupL, e_tupO, e_tupB, e_lisT, e_lisL, e_lisO, e_lisB, e_min2, e_max2, e_any, e_all, e_sum, e_sorted, e_rev, e_sl, e_oN, e_isi, e_lc, e_wipe0, e_wipe1, e_iA, e_iAb, e_gAq1, e_gAq2, e_gAq3, e_gAqb1, e_gAqb2, e_gAqb3, e_gAqb4, e_no, e_cCh, e_cChI, e_aug, e_decT, e_decF, e_cDispS, e_cDT, e_cDK, e_cDisp1, e_storeA, e_stR1, e_stR2, e_stR3, e_sd1, e_keyD1, e_keyD2, e_keyTD, e_intsD, e_intsD0, e_borT, e_borT2, e_borK, e_borK2, e_argT, e_argT2, e_argK, e_argK2, e_nbT, e_nbK, e_putT, e_putK, e_gAt1, e_gAt2, e_gAt3, e_gAt4, e_gGetDK, e_gGetDT, e_gIxD, e_gInD, e_gNotInD, e_cGet1, e_cGet2, e_dk1, e_dk2, e_dk3, e_dk4, e_dt1, e_dt2, e_del, atI_zero, e_at1, e_at2, e_at3, e_at4, e_at5, e_at6, e_at7, e_at8, e_at9, e_atm, e_V, e_retV, e_unp, e_app, e_store, e_fzE, oS, rsO_some, Rs.bind_ok, Rs.bind_no, Rs.out_ok, Out.then_nx, Out.then_rt, Out.then_ct, Out.then_bk, fin_rt, fin_nx, List.getElem?_cons_zero, List.getElem?_cons_succ, List.set_cons_succ, List.set_cons_zero, List.length_cons, List.length_nil, Nat.reduceAdd, Nat.reduceLT, Nat.reduceLeDiff, Nat.reduceEqDiff, if_true, if_false, Bool.false_eq_true, Bool.not_true, Bool.not_false, and_self, true_and, and_true, List.map_cons, List.map_nil, Option.map_some, sh_int, sh_bool, sh_none, sh_tup, sh_lst, eqv_int, reduceIte, Option.bind_some, Option.bind_none, kitB_ll, kitB_lt, kitB_tt, kitB_tl, kitB_ii, tyD_list, tyD_int, Bool.true_and, Bool.false_and, Bool.and_true, Bool.and_false, Bool.or_true, Bool.true_or, Bool.false_or, Bool.or_false, Bool.and_self, Bool.or_self, e_cAK, List.append_nil, List.nil_append, List.cons_append, e_andB, e_orB, e_andR, e_orR, tyD_tuple, eqv_bool, eqv_none, tyD_bool, tyD_str, tyD_none, kitB_bb, kitB_nb, kitB_bi, kitB_ib, kitB_nl, kitB_nt, beq_self_eq_true, hln, hdec, hk, e_while, hw]
      rfl
  · have hdec : decide ((r : Int) < (st.length : Int)) = true := decide_eq_true (by omega)
    rw [if_neg c]
    simp only [e_nil, e_seq, e_fz, e_bk, e_ct, e_ret, e_retN, e_drop, e_set, e_if, e_for, e_cC, e_c2, e_c1, e_cA, e_aN, e_aC, e_cB, e_asB, e_bNot, e_bAnd, e_bOr, e_vAnd, e_vOr, e_vNot, e_vIf, e_bYes, e_iL, e_iT, e_iLb, e_iR, e_gL1, e_gL2, e_gL3, e_gT, e_gLb1, e_gLb2, e_gLb3, e_gLb4, e_nb1, e_nb2, e_bor1, e_bor2, e_bor3, e_bor4, e_arg1, e_arg2, e_arg3, e_arg4, e_putd, e_puto, e_toD1, e_toD2, e_allD0, e_allD1, e_allD2, e_gTupl, e_gList, e_tgnm, e_tgtp, e_tg0, e_tg1, e_sq1, e_sq2, e_sq3, e_sq4, e_sq5, e_qv2, e_qv3, e_qv4, e_qv5, e_data1, e_data2, e_data3, e_okI, e_okB, e_i2, e_sub, e_mul, e_mod, e_div, e_pow, e_lt, e_le, e_gt, e_ge, e_neg, e_addI, e_addS, e_addT, e_addL1, e_addL2, e_addL3, e_addL4, e_addL5, e_addL6, e_addL7, e_addL8, e_addL9, e_eq, e_ne, e_in, e_notIn, e_inT, e_inT2, e_inL1, e_inL2, e_inL3, e_is, e_isNot, e_isN1, e_isN2, e_isN3, e_isN4, e_isN5, e_isN6, e_isN7, e_ixT, e_ixL, e_ixO, e_ixB, e_ixSc, e_lenT, e_lenL, e_lenO, e_lenB, e_lenSc, e_lenS, e_tupT, e_tupL, e_tupO, e_tupB, e_lisT, e_lisL, e_lisO, e_lisB, e_min2, e_max2, e_any, e_all, e_sum, e_sorted, e_rev, e_sl, e_oN, e_isi, e_lc, e_wipe0, e_wipe1, e_iA, e_iAb, e_gAq1, e_gAq2, e_gAq3, e_gAqb1, e_gAqb2, e_gAqb3, e_gAqb4, e_no, e_cCh, e_cChI, e_aug, e_decT, e_decF, e_cDispS, e_cDT, e_cDK, e_cDisp1, e_storeA, e_stR1, e_stR2, e_stR3, e_sd1, e_keyD1, e_keyD2, e_keyTD, e_intsD, e_intsD0, e_borT, e_borT2, e_borK, e_borK2, e_argT, e_argT2, e_argK, e_argK2, e_nbT, e_nbK, e_putT, e_putK, e_gAt1, e_gAt2, e_gAt3, e_gAt4, e_gGetDK, e_gGetDT, e_gIxD, e_gInD, e_gNotInD, e_cGet1, e_cGet2, e_dk1, e_dk2, e_dk3, e_dk4, e_dt1, e_dt2, e_del, atI_zero, e_at1, e_at2, e_at3, e_at4, e_at5, e_at6, e_at7, e_at8, e_at9, e_atm, e_V, e_retV, e_unp, e_app, e_store, e_fzE, oS, rsO_some, Rs.bind_ok, Rs.bind_no, Rs.out_ok, Out.then_nx, Out.then_rt, Out.then_ct, Out.then_bk, fin_rt, fin_nx, List.getElem?_cons_zero, List.getElem?_cons_succ, List.set_cons_succ, List.set_cons_zero, List.length_cons, List.length_nil, Nat.reduceAdd, Nat.reduceLT, Nat.reduceLeDiff, Nat.reduceEqDiff, if_true, if_false, Bool.false_eq_true, Bool.not_true, Bool.not_false, and_self, true_and, and_true, List.map_cons, List.map_nil, Option.map_some, sh_int, sh_bool, sh_none, sh_tup, sh_lst, eqv_int, reduceIte, Option.bind_some, Option.bind_none, kitB_ll, kitB_lt, kitB_tt, kitB_tl, kitB_ii, tyD_list, tyD_int, Bool.true_and, Bool.false_and, Bool.and_true, Bool.and_false, Bool.or_true, Bool.true_or, Bool.false_or, Bool.or_false, Bool.and_self, Bool.or_self, e_cAK, List.append_nil, List.nil_append, List.cons_append, e_andB, e_orB, e_andR, e_orR, tyD_tuple, eqv_bool, eqv_none, tyD_bool, tyD_str, tyD_none, kitB_bb, kitB_nb, kitB_bi, kitB_ib, kitB_nl, kitB_nt, beq_self_eq_true, hln, hdec]
    rfl
/-! ### the law's own table -/
theorem ways_in (us : List (List Int)) (r : Nat) (st : Option RV) (h p : List Int) (at1 : PyData) (hw : ∀ s, (usAt us s).length ≤ 1000000) (hl : h.length ≤ 900) : ∀ (ms : List Nat) (T : List (List Int × List Int)) (e7 e8 : Option RV), (∀ m ∈ ms, m < us.length) → tget T h = some p → T.length + ms.length ≤ 500000 →
    ∃ e7' e8', loopF (.nm 7) L0__law_ways (ms.map natI) [some (.d (.tuple (encU us))), some (.d (.int r)), st, some (.ot (encD T)), some (.ol (encQ T)), some (.d at1), some (.d (tupD h)), e7, e8]
      = .nx [some (.d (.tuple (encU us))), some (.d (.int r)), st, some (.ot (encD (((ms.filter (okM us r h)).map fun m : Nat => ((m : Int), movM h m)).foldl (addB p) T))), some (.ol (encQ (((ms.filter (okM us r h)).map fun m : Nat => ((m : Int), movM h m)).foldl (addB p) T))), some (.d at1), some (.d (tupD h)), e7', e8']
  | [], T, e7, e8, _, _, _ => ⟨e7, e8, by simp⟩
  | m :: ms, T, e7, e8, hm, hp, hz => by
    rw [List.length_cons] at hz
    have hm0 := hm m List.mem_cons_self
    have p1 := law_can_ok us h m (by omega) (by omega) (hw m)
    have p1 : F__law_can [.d (.tuple (encU us)), .d (tupD h), .d (.int m)] = _ := p1
    have p2 : F__law_moved [.d (tupD h), .d (.int m)] = .ok (.d (tupD (movM h m))) := law_moved_ok h m (by omega)
    have hln : gLen [.d (tupD (movM h m))] = .ok (.d (.int (movM h m).length)) := by rw [tupD, e_lenT, List.length_map]
    have hl1 : (encD T).length = T.length := List.length_map ..
    have hl2 : (encQ T).length = T.length := List.length_map ..
    have hz1 : T.length ≤ 1000000 := by omega
    have hk1 : keyTD (tupD (movM h m)) = some (movM h m) := intsD_map _
    have hk2 : keyTD (tupD h) = some h := intsD_map h
    have hadd : addB p T ((m : Int), movM h m) = if (tget T (movM h m)).isSome = true then T else T ++ [(movM h m, p ++ [(m : Int)])] := rfl
    rw [List.map_cons, loopF_cons]
    have ht : tgE (.nm 7) (natI m) [some (.d (.tuple (encU us))), some (.d (.int r)), st, some (.ot (encD T)), some (.ol (encQ T)), some (.d at1), some (.d (tupD h)), e7, e8] = some [some (.d (.tuple (encU us))), some (.d (.int r)), st, some (.ot (encD T)), some (.ol (encQ T)), some (.d at1), some (.d (tupD h)), some (.d (.int m)), e8] := rfl
    rw [ht]
    by_cases ok : okM us r h m = true
    · have c1 : canM us h m = true := by unfold okM at ok; simp at ok; exact ok.1
      have c2 : (movM h m).length ≤ r := by unfold okM at ok; simp at ok; exact ok.2
      have hdec : decide (((movM h m).length : Int) ≤ (r : Int)) = true := decide_eq_true (by omega)
      obtain ⟨e7', e8', ih⟩ := ways_in us r st h p at1 hw hl ms (addB p T ((m : Int), movM h m)) (some (.d (.int m))) (some (.d (tupD (movM h m)))) (fun x hx => hm x (List.mem_cons_of_mem _ hx)) (tget_pre (addB_pre p T _) hp) (by rw [hadd]; split <;> first | omega | (simp; omega))
      refine ⟨e7', e8', ?_⟩
      rw [List.filter_cons_of_pos ok, List.map_cons, List.foldl_cons, ← ih]
      have hb : L0__law_ways [some (.d (.tuple (encU us))), some (.d (.int r)), st, some (.ot (encD T)), some (.ol (encQ T)), some (.d at1), some (.d (tupD h)), some (.d (.int m)), e8]
          = .nx [some (.d (.tuple (encU us))), some (.d (.int r)), st, some (.ot (encD (addB p T ((m : Int), movM h m)))), some (.ol (encQ (addB p T ((m : Int), movM h m)))), some (.d at1), some (.d (tupD h)), some (.d (.int m)), some (.d (tupD (movM h m)))] := by
        rw [hadd]
        generalize hX : L0__law_ways _ = X
        unfold L0__law_ways at hX
        cases hq : tget T (movM h m) with
        | some q' =>
          have e1 : dGet (encD T) (movM h m) = some (.int (q'.length : Int)) := by rw [dGet_D, hq]; rfl
          simp only [e_nil, e_seq, e_fz, e_bk, e_ct, e_ret, e_retN, e_drop, e_set, e_if, e_for, e_cC, e_c2, e_c1, e_cA, e_aN, e_aC, e_cB, e_asB, e_bNot, e_bAnd, e_bOr, e_vAnd, e_vOr, e_vNot, e_vIf, e_bYes, e_iL, e_iT, e_iLb, e_iR, e_gL1, e_gL2, e_gL3, e_gT, e_gLb1, e_gLb2, e_gLb3, e_gLb4, e_nb1, e_nb2, e_bor1, e_bor2, e_bor3, e_bor4, e_arg1, e_arg2, e_arg3, e_arg4, e_putd, e_puto, e_toD1, e_toD2, e_allD0, e_allD1, e_allD2, e_gTupl, e_gList, e_tgnm, e_tgtp, e_tg0, e_tg1, e_sq1, e_sq2, e_sq3, e_sq4, e_sq5, e_qv2, e_qv3, e_qv4, e_qv5, e_data1, e_data2, e_data3, e_okI, e_okB, e_i2, e_sub, e_mul, e_mod, e_div, e_pow, e_lt, e_le, e_gt, e_ge, e_neg, e_addI, e_addS, e_addT, e_addL1, e_addL2, e_addL3, e_addL4, e_addL5, e_addL6, e_addL7, e_addL8, e_addL9, e_eq, e_ne, e_in, e_notIn, e_inT, e_inT2, e_inL1, e_inL2, e_inL3, e_is, e_isNot, e_isN1, e_isN2, e_isN3, e_isN4, e_isN5, e_isN6, e_isN7, e_ixT, e_ixL, e_ixO, e_ixB, e_ixSc, e_lenT, e_lenL, e_lenO, e_lenB, e_lenSc, e_lenS, e_tupT, e_tupL, e_tupO, e_tupB, e_lisT, e_lisL, e_lisO, e_lisB, e_min2, e_max2, e_any, e_all, e_sum, e_sorted, e_rev, e_sl, e_oN, e_isi, e_lc, e_wipe0, e_wipe1, e_iA, e_iAb, e_gAq1, e_gAq2, e_gAq3, e_gAqb1, e_gAqb2, e_gAqb3, e_gAqb4, e_no, e_cCh, e_cChI, e_aug, e_decT, e_decF, e_cDispS, e_cDT, e_cDK, e_cDisp1, e_storeA, e_stR1, e_stR2, e_stR3, e_sd1, e_keyD1, e_keyD2, e_keyTD, e_intsD, e_intsD0, e_borT, e_borT2, e_borK, e_borK2, e_argT, e_argT2, e_argK, e_argK2, e_nbT, e_nbK, e_putT, e_putK, e_gAt1, e_gAt2, e_gAt3, e_gAt4, e_gGetDK, e_gGetDT, e_gIxD, e_gInD, e_gNotInD, e_cGet1, e_cGet2, e_dk1, e_dk2, e_dk3, e_dk4, e_dt1, e_dt2, e_del, atI_zero, e_at1, e_at2, e_at3, e_at4, e_at5, e_at6, e_at7, e_at8, e_at9, e_atm, e_V, e_retV, e_unp, e_app, e_store, e_fzE, oS, rsO_some, Rs.bind_ok, Rs.bind_no, Rs.out_ok, Out.then_nx, Out.then_rt, Out.then_ct, Out.then_bk, fin_rt, fin_nx, List.getElem?_cons_zero, List.getElem?_cons_succ, List.set_cons_succ, List.set_cons_zero, List.length_cons, List.length_nil, Nat.reduceAdd, Nat.reduceLT, Nat.reduceLeDiff, Nat.reduceEqDiff, if_true, if_false, Bool.false_eq_true, Bool.not_true, Bool.not_false, and_self, true_and, and_true, List.map_cons, List.map_nil, Option.map_some, sh_int, sh_bool, sh_none, sh_tup, sh_lst, eqv_int, reduceIte, Option.bind_some, Option.bind_none, kitB_ll, kitB_lt, kitB_tt, kitB_tl, kitB_ii, tyD_list, tyD_int, Bool.true_and, Bool.false_and, Bool.and_true, Bool.and_false, Bool.or_true, Bool.true_or, Bool.false_or, Bool.or_false, Bool.and_self, Bool.or_self, e_cAK, List.append_nil, List.nil_append, List.cons_append, e_andB, e_orB, e_andR, e_orR, tyD_tuple, eqv_bool, eqv_none, tyD_bool, tyD_str, tyD_none, kitB_bb, kitB_nb, kitB_bi, kitB_ib, kitB_nl, kitB_nt, beq_self_eq_true, p1, c1, p2, hln, hdec, hk1, e1, Option.isSome_some] at hX
          subst hX
          rfl
        | none =>
          have e1 : dGet (encD T) (movM h m) = none := by rw [dGet_D, hq]; rfl
          have e2 : dGet (encD T) h = some (.int (p.length : Int)) := by rw [dGet_D, hp]; rfl
          simp only [e_nil, e_seq, e_fz, e_bk, e_ct, e_ret, e_retN, e_drop, e_set, e_if, e_for, e_cC, e_c2, e_c1, e_cA, e_aN, e_aC, e_cB, e_asB, e_bNot, e_bAnd, e_bOr, e_vAnd, e_vOr, e_vNot, e_vIf, e_bYes, e_iL, e_iT, e_iLb, e_iR, e_gL1, e_gL2, e_gL3, e_gT, e_gLb1, e_gLb2, e_gLb3, e_gLb4, e_nb1, e_nb2, e_bor1, e_bor2, e_bor3, e_bor4, e_arg1, e_arg2, e_arg3, e_arg4, e_putd, e_puto, e_toD1, e_toD2, e_allD0, e_allD1, e_allD2, e_gTupl, e_gList, e_tgnm, e_tgtp, e_tg0, e_tg1, e_sq1, e_sq2, e_sq3, e_sq4, e_sq5, e_qv2, e_qv3, e_qv4, e_qv5, e_data1, e_data2, e_data3, e_okI, e_okB, e_i2, e_sub, e_mul, e_mod, e_div, e_pow, e_lt, e_le, e_gt, e_ge, e_neg, e_addI, e_addS, e_addT, e_addL1, e_addL2, e_addL3, e_addL4, e_addL5, e_addL6, e_addL7, e_addL8, e_addL9, e_eq, e_ne, e_in, e_notIn, e_inT, e_inT2, e_inL1, e_inL2, e_inL3, e_is, e_isNot, e_isN1, e_isN2, e_isN3, e_isN4, e_isN5, e_isN6, e_isN7, e_ixT, e_ixL, e_ixO, e_ixB, e_ixSc, e_lenT, e_lenL, e_lenO, e_lenB, e_lenSc, e_lenS, e_tupT, e_tupL, e_tupO, e_tupB, e_lisT, e_lisL, e_lisO, e_lisB, e_min2, e_max2, e_any, e_all, e_sum, e_sorted, e_rev, e_sl, e_oN, e_isi, e_lc, e_wipe0, e_wipe1, e_iA, e_iAb, e_gAq1, e_gAq2, e_gAq3, e_gAqb1, e_gAqb2, e_gAqb3, e_gAqb4, e_no, e_cCh, e_cChI, e_aug, e_decT, e_decF, e_cDispS, e_cDT, e_cDK, e_cDisp1, e_storeA, e_stR1, e_stR2, e_stR3, e_sd1, e_keyD1, e_keyD2, e_keyTD, e_intsD, e_intsD0, e_borT, e_borT2, e_borK, e_borK2, e_argT, e_argT2, e_argK, e_argK2, e_nbT, e_nbK, e_putT, e_putK, e_gAt1, e_gAt2, e_gAt3, e_gAt4, e_gGetDK, e_gGetDT, e_gIxD, e_gInD, e_gNotInD, e_cGet1, e_cGet2, e_dk1, e_dk2, e_dk3, e_dk4, e_dt1, e_dt2, e_del, atI_zero, e_at1, e_at2, e_at3, e_at4, e_at5, e_at6, e_at7, e_at8, e_at9, e_atm, e_V, e_retV, e_unp, e_app, e_store, e_fzE, oS, rsO_some, Rs.bind_ok, Rs.bind_no, Rs.out_ok, Out.then_nx, Out.then_rt, Out.then_ct, Out.then_bk, fin_rt, fin_nx, List.getElem?_cons_zero, List.getElem?_cons_succ, List.set_cons_succ, List.set_cons_zero, List.length_cons, List.length_nil, Nat.reduceAdd, Nat.reduceLT, Nat.reduceLeDiff, Nat.reduceEqDiff, if_true, if_false, Bool.false_eq_true, Bool.not_true, Bool.not_false, and_self, true_and, and_true, List.map_cons, List.map_nil, Option.map_some, sh_int, sh_bool, sh_none, sh_tup, sh_lst, eqv_int, reduceIte, Option.bind_some, Option.bind_none, kitB_ll, kitB_lt, kitB_tt, kitB_tl, kitB_ii, tyD_list, tyD_int, Bool.true_and, Bool.false_and, Bool.and_true, Bool.and_false, Bool.or_true, Bool.true_or, Bool.false_or, Bool.or_false, Bool.and_self, Bool.or_self, e_cAK, List.append_nil, List.nil_append, List.cons_append, e_andB, e_orB, e_andR, e_orR, tyD_tuple, eqv_bool, eqv_none, tyD_bool, tyD_str, tyD_none, kitB_bb, kitB_nb, kitB_bi, kitB_ib, kitB_nl, kitB_nt, beq_self_eq_true, p1, c1, p2, hln, hdec, hk1, hk2, e1, e2, Option.isSome_none, hl1, hl2, if_pos hz1] at hX
          subst hX
          have e3 : dPut (encD T) (movM h m) (.int ((p.length : Int) + 1)) = encD (T ++ [(movM h m, p ++ [(m : Int)])]) := by
            rw [dPut_new _ e1]
            unfold encD
            rw [List.map_append]
            simp
          have e4 : encQ T ++ [tupD (movM h m)] = encQ (T ++ [(movM h m, p ++ [(m : Int)])]) := by unfold encQ; rw [List.map_append]; rfl
          rw [e3, e4]
          rfl
      simp only [hb, lp_nx]
    · obtain ⟨f8, hb⟩ : ∃ f8, L0__law_ways [some (.d (.tuple (encU us))), some (.d (.int r)), st, some (.ot (encD T)), some (.ol (encQ T)), some (.d at1), some (.d (tupD h)), some (.d (.int m)), e8]
          = .nx [some (.d (.tuple (encU us))), some (.d (.int r)), st, some (.ot (encD T)), some (.ol (encQ T)), some (.d at1), some (.d (tupD h)), some (.d (.int m)), f8] := by
        generalize hX : L0__law_ways _ = X
        unfold L0__law_ways at hX
        cases c1 : canM us h m with
        | false =>
          simp only [e_nil, e_seq, e_fz, e_bk, e_ct, e_ret, e_retN, e_drop, e_set, e_if, e_for, e_cC, e_c2, e_c1, e_cA, e_aN, e_aC, e_cB, e_asB, e_bNot, e_bAnd, e_bOr, e_vAnd, e_vOr, e_vNot, e_vIf, e_bYes, e_iL, e_iT, e_iLb, e_iR, e_gL1, e_gL2, e_gL3, e_gT, e_gLb1, e_gLb2, e_gLb3, e_gLb4, e_nb1, e_nb2, e_bor1, e_bor2, e_bor3, e_bor4, e_arg1, e_arg2, e_arg3, e_arg4, e_putd, e_puto, e_toD1, e_toD2, e_allD0, e_allD1, e_allD2, e_gTupl, e_gList, e_tgnm, e_tgtp, e_tg0, e_tg1, e_sq1, e_sq2, e_sq3, e_sq4, e_sq5, e_qv2, e_qv3, e_qv4, e_qv5, e_data1, e_data2, e_data3, e_okI, e_okB, e_i2, e_sub, e_mul, e_mod, e_div, e_pow, e_lt, e_le, e_gt, e_ge, e_neg, e_addI, e_addS, e_addT, e_addL1, e_addL2, e_addL3, e_addL4, e_addL5, e_addL6, e_addL7, e_addL8, e_addL9, e_eq, e_ne, e_in, e_notIn, e_inT, e_inT2, e_inL1, e_inL2, e_inL3, e_is, e_isNot, e_isN1, e_isN2, e_isN3, e_isN4, e_isN5, e_isN6, e_isN7, e_ixT, e_ixL, e_ixO, e_ixB, e_ixSc, e_lenT, e_lenL, e_lenO, e_lenB, e_lenSc, e_lenS, e_tupT, e_tupL, e_tupO, e_tupB, e_lisT, e_lisL, e_lisO, e_lisB, e_min2, e_max2, e_any, e_all, e_sum, e_sorted, e_rev, e_sl, e_oN, e_isi, e_lc, e_wipe0, e_wipe1, e_iA, e_iAb, e_gAq1, e_gAq2, e_gAq3, e_gAqb1, e_gAqb2, e_gAqb3, e_gAqb4, e_no, e_cCh, e_cChI, e_aug, e_decT, e_decF, e_cDispS, e_cDT, e_cDK, e_cDisp1, e_storeA, e_stR1, e_stR2, e_stR3, e_sd1, e_keyD1, e_keyD2, e_keyTD, e_intsD, e_intsD0, e_borT, e_borT2, e_borK, e_borK2, e_argT, e_argT2, e_argK, e_argK2, e_nbT, e_nbK, e_putT, e_putK, e_gAt1, e_gAt2, e_gAt3, e_gAt4, e_gGetDK, e_gGetDT, e_gIxD, e_gInD, e_gNotInD, e_cGet1, e_cGet2, e_dk1, e_dk2, e_dk3, e_dk4, e_dt1, e_dt2, e_del, atI_zero, e_at1, e_at2, e_at3, e_at4, e_at5, e_at6, e_at7, e_at8, e_at9, e_atm, e_V, e_retV, e_unp, e_app, e_store, e_fzE, oS, rsO_some, Rs.bind_ok, Rs.bind_no, Rs.out_ok, Out.then_nx, Out.then_rt, Out.then_ct, Out.then_bk, fin_rt, fin_nx, List.getElem?_cons_zero, List.getElem?_cons_succ, List.set_cons_succ, List.set_cons_zero, List.length_cons, List.length_nil, Nat.reduceAdd, Nat.reduceLT, Nat.reduceLeDiff, Nat.reduceEqDiff, if_true, if_false, Bool.false_eq_true, Bool.not_true, Bool.not_false, and_self, true_and, and_true, List.map_cons, List.map_nil, Option.map_some, sh_int, sh_bool, sh_none, sh_tup, sh_lst, eqv_int, reduceIte, Option.bind_some, Option.bind_none, kitB_ll, kitB_lt, kitB_tt, kitB_tl, kitB_ii, tyD_list, tyD_int, Bool.true_and, Bool.false_and, Bool.and_true, Bool.and_false, Bool.or_true, Bool.true_or, Bool.false_or, Bool.or_false, Bool.and_self, Bool.or_self, e_cAK, List.append_nil, List.nil_append, List.cons_append, e_andB, e_orB, e_andR, e_orR, tyD_tuple, eqv_bool, eqv_none, tyD_bool, tyD_str, tyD_none, kitB_bb, kitB_nb, kitB_bi, kitB_ib, kitB_nl, kitB_nt, beq_self_eq_true, p1, c1] at hX
          subst hX
          exact ⟨_, rfl⟩
        | true =>
          have hdec : decide (((movM h m).length : Int) ≤ (r : Int)) = false := decide_eq_false fun z => ok (by unfold okM; rw [c1, decide_eq_true (show (movM h m).length ≤ r by omega)]; rfl)
          simp only [e_nil, e_seq, e_fz, e_bk, e_ct, e_ret, e_retN, e_drop, e_set, e_if, e_for, e_cC, e_c2, e_c1, e_cA, e_aN, e_aC, e_cB, e_asB, e_bNot, e_bAnd, e_bOr, e_vAnd, e_vOr, e_vNot, e_vIf, e_bYes, e_iL, e_iT, e_iLb, e_iR, e_gL1, e_gL2, e_gL3, e_gT, e_gLb1, e_gLb2, e_gLb3, e_gLb4, e_nb1, e_nb2, e_bor1, e_bor2, e_bor3, e_bor4, e_arg1, e_arg2, e_arg3, e_arg4, e_putd, e_puto, e_toD1, e_toD2, e_allD0, e_allD1, e_allD2, e_gTupl, e_gList, e_tgnm, e_tgtp, e_tg0, e_tg1, e_sq1, e_sq2, e_sq3, e_sq4, e_sq5, e_qv2, e_qv3, e_qv4, e_qv5, e_data1, e_data2, e_data3, e_okI, e_okB, e_i2, e_sub, e_mul, e_mod, e_div, e_pow, e_lt, e_le, e_gt, e_ge, e_neg, e_addI, e_addS, e_addT, e_addL1, e_addL2, e_addL3, e_addL4, e_addL5, e_addL6, e_addL7, e_addL8, e_addL9, e_eq, e_ne, e_in, e_notIn, e_inT, e_inT2, e_inL1, e_inL2, e_inL3, e_is, e_isNot, e_isN1, e_isN2, e_isN3, e_isN4, e_isN5, e_isN6, e_isN7, e_ixT, e_ixL, e_ixO, e_ixB, e_ixSc, e_lenT, e_lenL, e_lenO, e_lenB, e_lenSc, e_lenS, e_tupT, e_tupL, e_tupO, e_tupB, e_lisT, e_lisL, e_lisO, e_lisB, e_min2, e_max2, e_any, e_all, e_sum, e_sorted, e_rev, e_sl, e_oN, e_isi, e_lc, e_wipe0, e_wipe1, e_iA, e_iAb, e_gAq1, e_gAq2, e_gAq3, e_gAqb1, e_gAqb2, e_gAqb3, e_gAqb4, e_no, e_cCh, e_cChI, e_aug, e_decT, e_decF, e_cDispS, e_cDT, e_cDK, e_cDisp1, e_storeA, e_stR1, e_stR2, e_stR3, e_sd1, e_keyD1, e_keyD2, e_keyTD, e_intsD, e_intsD0, e_borT, e_borT2, e_borK, e_borK2, e_argT, e_argT2, e_argK, e_argK2, e_nbT, e_nbK, e_putT, e_putK, e_gAt1, e_gAt2, e_gAt3, e_gAt4, e_gGetDK, e_gGetDT, e_gIxD, e_gInD, e_gNotInD, e_cGet1, e_cGet2, e_dk1, e_dk2, e_dk3, e_dk4, e_dt1, e_dt2, e_del, atI_zero, e_at1, e_at2, e_at3, e_at4, e_at5, e_at6, e_at7, e_at8, e_at9, e_atm, e_V, e_retV, e_unp, e_app, e_store, e_fzE, oS, rsO_some, Rs.bind_ok, Rs.bind_no, Rs.out_ok, Out.then_nx, Out.then_rt, Out.then_ct, Out.then_bk, fin_rt, fin_nx, List.getElem?_cons_zero, List.getElem?_cons_succ, List.set_cons_succ, List.set_cons_zero, List.length_cons, List.length_nil, Nat.reduceAdd, Nat.reduceLT, Nat.reduceLeDiff, Nat.reduceEqDiff, if_true, if_false, Bool.false_eq_true, Bool.not_true, Bool.not_false, and_self, true_and, and_true, List.map_cons, List.map_nil, Option.map_some, sh_int, sh_bool, sh_none, sh_tup, sh_lst, eqv_int, reduceIte, Option.bind_some, Option.bind_none, kitB_ll, kitB_lt, kitB_tt, kitB_tl, kitB_ii, tyD_list, tyD_int, Bool.true_and, Bool.false_and, Bool.and_true, Bool.and_false, Bool.or_true, Bool.true_or, Bool.false_or, Bool.or_false, Bool.and_self, Bool.or_self, e_cAK, List.append_nil, List.nil_append, List.cons_append, e_andB, e_orB, e_andR, e_orR, tyD_tuple, eqv_bool, eqv_none, tyD_bool, tyD_str, tyD_none, kitB_bb, kitB_nb, kitB_bi, kitB_ib, kitB_nl, kitB_nt, beq_self_eq_true, p1, c1, p2, hln, hdec] at hX
          subst hX
          exact ⟨_, rfl⟩
      obtain ⟨e7', e8', ih⟩ := ways_in us r st h p at1 hw hl ms T (some (.d (.int m))) f8 (fun x hx => hm x (List.mem_cons_of_mem _ hx)) hp (by omega)
      refine ⟨e7', e8', ?_⟩
      rw [List.filter_cons_of_neg ok, ← ih]
      simp only [hb, lp_nx]
theorem ways_while (us : List (List Int)) (r : Nat) (st : Option RV) (hw : ∀ s, (usAt us s).length ≤ 1000000) (hu : us.length ≤ 8) (hr8 : r ≤ 800) (n : Nat) : ∀ (k : Nat) (T : List (List Int × List Int)) (i : Nat) (e6 e7 e8 : Option RV), Row us r T i → (runB (succM us r) k T i).length ≤ 1000 → (runB (succM us r) k T i).length < k + i → i ≤ T.length →
    ∃ e5' e6' e7' e8', loopW (cB (c2 gLt (cV 5) (cA gLen (aC (cV 4) aN)))) L1__law_ways (k + n) [some (.d (.tuple (encU us))), some (.d (.int r)), st, some (.ot (encD T)), some (.ol (encQ T)), some (.d (.int i)), e6, e7, e8]
      = .nx [some (.d (.tuple (encU us))), some (.d (.int r)), st, some (.ot (encD (runB (succM us r) k T i))), some (.ol (encQ (runB (succM us r) k T i))), e5', e6', e7', e8']
  | 0, T, i, e6, e7, e8, w, hz, hf, hi => by
    unfold runB at hf
    omega
  | k + 1, T, i, e6, e7, e8, w, hz, hf, hi => by
    have hq : (encQ T).length = T.length := List.length_map ..
    rw [show k + 1 + n = (k + n) + 1 by omega, loopW_succ]
    unfold runB
    unfold runB at hz hf
    cases e : T[i]? with
    | none =>
      have hge : T.length ≤ i := List.getElem?_eq_none_iff.mp e
      have hdec : decide ((i : Int) < (T.length : Int)) = false := decide_eq_false (by omega)
      simp only [e_nil, e_seq, e_fz, e_bk, e_ct, e_ret, e_retN, e_drop, e_set, e_if, e_for, e_cC, e_c2, e_c1, e_cA, e_aN, e_aC, e_cB, e_asB, e_bNot, e_bAnd, e_bOr, e_vAnd, e_vOr, e_vNot, e_vIf, e_bYes, e_iL, e_iT, e_iLb, e_iR, e_gL1, e_gL2, e_gL3, e_gT, e_gLb1, e_gLb2, e_gLb3, e_gLb4, e_nb1, e_nb2, e_bor1, e_bor2, e_bor3, e_bor4, e_arg1, e_arg2, e_arg3, e_arg4, e_putd, e_puto, e_toD1, e_toD2, e_allD0, e_allD1, e_allD2, e_gTupl, e_gList, e_tgnm, e_tgtp, e_tg0, e_tg1, e_sq1, e_sq2, e_sq3, e_sq4, e_sq5, e_qv2, e_qv3, e_qv4, e_qv5, e_data1, e_data2, e_data3, e_okI, e_okB, e_i2, e_sub, e_mul, e_mod, e_div, e_pow, e_lt, e_le, e_gt, e_ge, e_neg, e_addI, e_addS, e_addT, e_addL1, e_addL2, e_addL3, e_addL4, e_addL5, e_addL6, e_addL7, e_addL8, e_addL9, e_eq, e_ne, e_in, e_notIn, e_inT, e_inT2, e_inL1, e_inL2, e_inL3, e_is, e_isNot, e_isN1, e_isN2, e_isN3, e_isN4, e_isN5, e_isN6, e_isN7, e_ixT, e_ixL, e_ixO, e_ixB, e_ixSc, e_lenT, e_lenL, e_lenO, e_lenB, e_lenSc, e_lenS, e_tupT, e_tupL, e_tupO, e_tupB, e_lisT, e_lisL, e_lisO, e_lisB, e_min2, e_max2, e_any, e_all, e_sum, e_sorted, e_rev, e_sl, e_oN, e_isi, e_lc, e_wipe0, e_wipe1, e_iA, e_iAb, e_gAq1, e_gAq2, e_gAq3, e_gAqb1, e_gAqb2, e_gAqb3, e_gAqb4, e_no, e_cCh, e_cChI, e_aug, e_decT, e_decF, e_cDispS, e_cDT, e_cDK, e_cDisp1, e_storeA, e_stR1, e_stR2, e_stR3, e_sd1, e_keyD1, e_keyD2, e_keyTD, e_intsD, e_intsD0, e_borT, e_borT2, e_borK, e_borK2, e_argT, e_argT2, e_argK, e_argK2, e_nbT, e_nbK, e_putT, e_putK, e_gAt1, e_gAt2, e_gAt3, e_gAt4, e_gGetDK, e_gGetDT, e_gIxD, e_gInD, e_gNotInD, e_cGet1, e_cGet2, e_dk1, e_dk2, e_dk3, e_dk4, e_dt1, e_dt2, e_del, atI_zero, e_at1, e_at2, e_at3, e_at4, e_at5, e_at6, e_at7, e_at8, e_at9, e_atm, e_V, e_retV, e_unp, e_app, e_store, e_fzE, oS, rsO_some, Rs.bind_ok, Rs.bind_no, Rs.out_ok, Out.then_nx, Out.then_rt, Out.then_ct, Out.then_bk, fin_rt, fin_nx, List.getElem?_cons_zero, List.getElem?_cons_succ, List.set_cons_succ, List.set_cons_zero, List.length_cons, List.length_nil, Nat.reduceAdd, Nat.reduceLT, Nat.reduceLeDiff, Nat.reduceEqDiff, if_true, if_false, Bool.false_eq_true, Bool.not_true, Bool.not_false, and_self, true_and, and_true, List.map_cons, List.map_nil, Option.map_some, sh_int, sh_bool, sh_none, sh_tup, sh_lst, eqv_int, reduceIte, Option.bind_some, Option.bind_none, kitB_ll, kitB_lt, kitB_tt, kitB_tl, kitB_ii, tyD_list, tyD_int, Bool.true_and, Bool.false_and, Bool.and_true, Bool.and_false, Bool.or_true, Bool.true_or, Bool.false_or, Bool.or_false, Bool.and_self, Bool.or_self, e_cAK, List.append_nil, List.nil_append, List.cons_append, e_andB, e_orB, e_andR, e_orR, tyD_tuple, eqv_bool, eqv_none, tyD_bool, tyD_str, tyD_none, kitB_bb, kitB_nb, kitB_bi, kitB_ib, kitB_nl, kitB_nt, beq_self_eq_true, hq, hdec]
      exact ⟨_, _, _, _, rfl⟩
    | some f =>
      have hil := (List.getElem?_eq_some_iff.mp e).1
      have hdec : decide ((i : Int) < (T.length : Int)) = true := decide_eq_true (by omega)
      have hmem := List.mem_of_getElem? e
      have hfp : tget T f.1 = some f.2 := tget_of w.nodup hmem
      have hfc := w.conf f hmem
      rw [e] at hz hf
      simp only at hz hf
      have pre := expB_pre (succ := succM us r) T f.1 f.2
      have pre2 := runB_pre (succ := succM us r) k (expB (succM us r) T f.1 f.2) (i + 1)
      have hT1 := pre.length_le
      have hT2 := pre2.length_le
      have hix : atI (encQ T) (i : Int) = some (tupD f.1) := by
        rw [atI_lt (by omega) (by rw [hq]; omega)]
        unfold encQ
        rw [List.getElem?_map, show ((i : Int)).toNat = i by omega, e]
        rfl
      have hr := e_R1n (n := us.length) (by omega)
      rw [rng_nat] at hr
      obtain ⟨e7', e8', hin⟩ := ways_in us r st f.1 f.2 (.int ((i : Int) + 1)) hw (by omega) (List.range us.length) T e7 e8 (fun m hm => List.mem_range.mp hm) hfp (by simp; omega)
      obtain ⟨f5, f6, f7, f8, ih⟩ := ways_while us r st hw hu hr8 n k (expB (succM us r) T f.1 f.2) (i + 1) (some (.d (tupD f.1))) e7' e8' (w.next hr8 hmem) hz (by omega) (by omega)
      refine ⟨f5, f6, f7, f8, ?_⟩
      have hb : L1__law_ways [some (.d (.tuple (encU us))), some (.d (.int r)), st, some (.ot (encD T)), some (.ol (encQ T)), some (.d (.int i)), e6, e7, e8] = .nx [some (.d (.tuple (encU us))), some (.d (.int r)), st, some (.ot (encD (expB (succM us r) T f.1 f.2))), some (.ol (encQ (expB (succM us r) T f.1 f.2))), some (.d (.int ((i : Int) + 1))), some (.d (tupD f.1)), e7', e8'] := by
        generalize hX : L1__law_ways _ = X
        unfold L1__law_ways at hX
        simp only [e_nil, e_seq, e_fz, e_bk, e_ct, e_ret, e_retN, e_drop, e_set, e_if, e_for, e_cC, e_c2, e_c1, e_cA, e_aN, e_aC, e_cB, e_asB, e_bNot, e_bAnd, e_bOr, e_vAnd, e_vOr, e_vNot, e_vIf, e_bYes, e_iL, e_iT, e_iLb, e_iR, e_gL1, e_gL2, e_gL3, e_gT, e_gLb1, e_gLb2, e_gLb3, e_gLb4, e_nb1, e_nb2, e_bor1, e_bor2, e_bor3, e_bor4, e_arg1, e_arg2, e_arg3, e_arg4, e_putd, e_puto, e_toD1, e_toD2, e_allD0, e_allD1, e_allD2, e_gTupl, e_gList, e_tgnm, e_tgtp, e_tg0, e_tg1, e_sq1, e_sq2, e_sq3, e_sq4, e_sq5, e_qv2, e_qv3, e_qv4, e_qv5, e_data1, e_data2, e_data3, e_okI, e_okB, e_i2, e_sub, e_mul, e_mod, e_div, e_pow, e_lt, e_le, e_gt, e_ge, e_neg, e_addI, e_addS, e_addT, e_addL1, e_addL2, e_addL3, e_addL4, e_addL5, e_addL6, e_addL7, e_addL8, e_addL9, e_eq, e_ne, e_in, e_notIn, e_inT, e_inT2, e_inL1, e_inL2, e_inL3, e_is, e_isNot, e_isN1, e_isN2, e_isN3, e_isN4, e_isN5, e_isN6, e_isN7, e_ixT, e_ixL, e_ixO, e_ixB, e_ixSc, e_lenT, e_lenL, e_lenO, e_lenB, e_lenSc, e_lenS, e_tupT, e_tupL, e_tupO, e_tupB, e_lisT, e_lisL, e_lisO, e_lisB, e_min2, e_max2, e_any, e_all, e_sum, e_sorted, e_rev, e_sl, e_oN, e_isi, e_lc, e_wipe0, e_wipe1, e_iA, e_iAb, e_gAq1, e_gAq2, e_gAq3, e_gAqb1, e_gAqb2, e_gAqb3, e_gAqb4, e_no, e_cCh, e_cChI, e_aug, e_decT, e_decF, e_cDispS, e_cDT, e_cDK, e_cDisp1, e_storeA, e_stR1, e_stR2, e_stR3, e_sd1, e_keyD1, e_keyD2, e_keyTD, e_intsD, e_intsD0, e_borT, e_borT2, e_borK, e_borK2, e_argT, e_argT2, e_argK, e_argK2, e_nbT, e_nbK, e_putT, e_putK, e_gAt1, e_gAt2, e_gAt3, e_gAt4, e_gGetDK, e_gGetDT, e_gIxD, e_gInD, e_gNotInD, e_cGet1, e_cGet2, e_dk1, e_dk2, e_dk3, e_dk4, e_dt1, e_dt2, e_del, atI_zero, e_at1, e_at2, e_at3, e_at4, e_at5, e_at6, e_at7, e_at8, e_at9, e_atm, e_V, e_retV, e_unp, e_app, e_store, e_fzE, oS, rsO_some, Rs.bind_ok, Rs.bind_no, Rs.out_ok, Out.then_nx, Out.then_rt, Out.then_ct, Out.then_bk, fin_rt, fin_nx, List.getElem?_cons_zero, List.getElem?_cons_succ, List.set_cons_succ, List.set_cons_zero, List.length_cons, List.length_nil, Nat.reduceAdd, Nat.reduceLT, Nat.reduceLeDiff, Nat.reduceEqDiff, if_true, if_false, Bool.false_eq_true, Bool.not_true, Bool.not_false, and_self, true_and, and_true, List.map_cons, List.map_nil, Option.map_some, sh_int, sh_bool, sh_none, sh_tup, sh_lst, eqv_int, reduceIte, Option.bind_some, Option.bind_none, kitB_ll, kitB_lt, kitB_tt, kitB_tl, kitB_ii, tyD_list, tyD_int, Bool.true_and, Bool.false_and, Bool.and_true, Bool.and_false, Bool.or_true, Bool.true_or, Bool.false_or, Bool.or_false, Bool.and_self, Bool.or_self, e_cAK, List.append_nil, List.nil_append, List.cons_append, e_andB, e_orB, e_andR, e_orR, tyD_tuple, eqv_bool, eqv_none, tyD_bool, tyD_str, tyD_none, kitB_bb, kitB_nb, kitB_bi, kitB_ib, kitB_nl, kitB_nt, beq_self_eq_true, hix, encU_len, hr, hin] at hX
        subst hX
        rfl
      simp only [e_nil, e_seq, e_fz, e_bk, e_ct, e_ret, e_retN, e_drop, e_set, e_if, e_for, e_cC, e_c2, e_c1, e_cA, e_aN, e_aC, e_cB, e_asB, e_bNot, e_bAnd, e_bOr, e_vAnd, e_vOr, e_vNot, e_vIf, e_bYes, e_iL, e_iT, e_iLb, e_iR, e_gL1, e_gL2, e_gL3, e_gT, e_gLb1, e_gLb2, e_gLb3, e_gLb4, e_nb1, e_nb2, e_bor1, e_bor2, e_bor3, e_bor4, e_arg1, e_arg2, e_arg3, e_arg4, e_putd, e_puto, e_toD1, e_toD2, e_allD0, e_allD1, e_allD2, e_gTupl, e_gList, e_tgnm, e_tgtp, e_tg0, e_tg1, e_sq1, e_sq2, e_sq3, e_sq4, e_sq5, e_qv2, e_qv3, e_qv4, e_qv5, e_data1, e_data2, e_data3, e_okI, e_okB, e_i2, e_sub, e_mul, e_mod, e_div, e_pow, e_lt, e_le, e_gt, e_ge, e_neg, e_addI, e_addS, e_addT, e_addL1, e_addL2, e_addL3, e_addL4, e_addL5, e_addL6, e_addL7, e_addL8, e_addL9, e_eq, e_ne, e_in, e_notIn, e_inT, e_inT2, e_inL1, e_inL2, e_inL3, e_is, e_isNot, e_isN1, e_isN2, e_isN3, e_isN4, e_isN5, e_isN6, e_isN7, e_ixT, e_ixL, e_ixO, e_ixB, e_ixSc, e_lenT, e_lenL, e_lenO, e_lenB, e_lenSc, e_lenS, e_tupT, e_tupL, e_tupO, e_tupB, e_lisT, e_lisL, e_lisO, e_lisB, e_min2, e_max2, e_any, e_all, e_sum, e_sorted, e_rev, e_sl, e_oN, e_isi, e_lc, e_wipe0, e_wipe1, e_iA, e_iAb, e_gAq1, e_gAq2, e_gAq3, e_gAqb1, e_gAqb2, e_gAqb3, e_gAqb4, e_no, e_cCh, e_cChI, e_aug, e_decT, e_decF, e_cDispS, e_cDT, e_cDK, e_cDisp1, e_storeA, e_stR1, e_stR2, e_stR3, e_sd1, e_keyD1, e_keyD2, e_keyTD, e_intsD, e_intsD0, e_borT, e_borT2, e_borK, e_borK2, e_argT, e_argT2, e_argK, e_argK2, e_nbT, e_nbK, e_putT, e_putK, e_gAt1, e_gAt2, e_gAt3, e_gAt4, e_gGetDK, e_gGetDT, e_gIxD, e_gInD, e_gNotInD, e_cGet1, e_cGet2, e_dk1, e_dk2, e_dk3, e_dk4, e_dt1, e_dt2, e_del, atI_zero, e_at1, e_at2, e_at3, e_at4, e_at5, e_at6, e_at7, e_at8, e_at9, e_atm, e_V, e_retV, e_unp, e_app, e_store, e_fzE, oS, rsO_some, Rs.bind_ok, Rs.bind_no, Rs.out_ok, Out.then_nx, Out.then_rt, Out.then_ct, Out.then_bk, fin_rt, fin_nx, List.getElem?_cons_zero, List.getElem?_cons_succ, List.set_cons_succ, List.set_cons_zero, List.length_cons, List.length_nil, Nat.reduceAdd, Nat.reduceLT, Nat.reduceLeDiff, Nat.reduceEqDiff, if_true, if_false, Bool.false_eq_true, Bool.not_true, Bool.not_false, and_self, true_and, and_true, List.map_cons, List.map_nil, Option.map_some, sh_int, sh_bool, sh_none, sh_tup, sh_lst, eqv_int, reduceIte, Option.bind_some, Option.bind_none, kitB_ll, kitB_lt, kitB_tt, kitB_tl, kitB_ii, tyD_list, tyD_int, Bool.true_and, Bool.false_and, Bool.and_true, Bool.and_false, Bool.or_true, Bool.true_or, Bool.false_or, Bool.or_false, Bool.and_self, Bool.or_self, e_cAK, List.append_nil, List.nil_append, List.cons_append, e_andB, e_orB, e_andR, e_orR, tyD_tuple, eqv_bool, eqv_none, tyD_bool, tyD_str, tyD_none, kitB_bb, kitB_nb, kitB_bi, kitB_ib, kitB_nl, kitB_nt, beq_self_eq_true, hq, hdec, hb, lp_nx]
      exact ih
/-- nothing is in the table of a start that holds too much -/
def waysM (us : List (List Int)) (r : Nat) (st : List Int) : List (List Int × List Int) := if st.length ≤ r then tabM us r st else []
theorem ways_ok (us : List (List Int)) (r : Nat) (st : List Int) (hw : ∀ s, (usAt us s).length ≤ 1000000) (hu : us.length ≤ 8) (hr8 : r ≤ 800) (hst : st.length ≤ 800) (hc : Cf us.length st) : F__law_ways [.d (.tuple (encU us)), .d (.int r), .d (tupD st)] = .ok (.ot (encD (waysM us r st))) := by
  have hln : gLen [.d (tupD st)] = .ok (.d (.int st.length)) := by rw [tupD, e_lenT, List.length_map]
  have hk : keyTD (tupD st) = some st := intsD_map st
  show (sSeq _ _ [some (.d (.tuple (encU us))), some (.d (.int r)), some (.d (tupD st)), none, none, none, none, none, none]).fin = _
  unfold waysM
  by_cases c : st.length ≤ r
  · have hdec : decide ((st.length : Int) ≤ (r : Int)) = true := decide_eq_true (by omega)
    obtain ⟨f5, f6, f7, f8, hl⟩ := ways_while us r (some (.d (tupD st))) hw hu hr8 99700 300 [(st, [])] 0 none none none (row_first us r st hst) (by have := (tabM_ok (r := r) hu hc).2; unfold tabM at this; omega) (by have := (tabM_ok (r := r) hu hc).2; unfold tabM at this; omega) (by simp)
    have hl : loopW (cB (c2 gLt (cV 5) (cA gLen (aC (cV 4) aN)))) L1__law_ways 100000 [some (.d (.tuple (encU us))), some (.d (.int r)), some (.d (tupD st)), some (.ot [(st, .int 0)]), some (.ol [tupD st]), some (.d (.int 0)), none, none, none] = .nx [some (.d (.tuple (encU us))), some (.d (.int r)), some (.d (tupD st)), some (.ot (encD (tabM us r st))), some (.ol (encQ (tabM us r st))), f5, f6, f7, f8] := hl
    have hp : dPut [] st (.int 0) = [(st, PyData.int 0)] := rfl
    rw [if_pos c]
    simp only [e_nil, e_seq, e_fz, e_bk, e_ct, e_ret, e_retN, e_drop, e_set, e_if, e_for, e_cC, e_c2, e_c1, e_cA, e_aN, e_aC, e_cB, e_asB, e_bNot, e_bAnd, e_bOr, e_vAnd, e_vOr, e_vNot, e_vIf, e_bYes, e_iL, e_iT, e_iLb, e_iR, e_gL1, e_gL2, e_gL3, e_gT, e_gLb1, e_gLb2, e_gLb3, e_gLb4, e_nb1, e_nb2, e_bor1, e_bor2, e_bor3, e_bor4, e_arg1, e_arg2, e_arg3, e_arg4, e_putd, e_puto, e_toD1, e_toD2, e_allD0, e_allD1, e_allD2, e_gTupl, e_gList, e_tgnm, e_tgtp, e_tg0, e_tg1, e_sq1, e_sq2, e_sq3, e_sq4, e_sq5, e_qv2, e_qv3, e_qv4, e_qv5, e_data1, e_data2, e_data3, e_okI, e_okB, e_i2, e_sub, e_mul, e_mod, e_div, e_pow, e_lt, e_le, e_gt, e_ge, e_neg, e_addI, e_addS, e_addT, e_addL1, e_addL2, e_addL3, e_addL4, e_addL5, e_addL6, e_addL7, e_addL8, e_addL9, e_eq, e_ne, e_in, e_notIn, e_inT, e_inT2, e_inL1, e_inL2, e_inL3, e_is, e_isNot, e_isN1, e_isN2, e_isN3, e_isN4, e_isN5, e_isN6, e_isN7, e_ixT, e_ixL, e_ixO, e_ixB, e_ixSc, e_lenT, e_lenL, e_lenO, e_lenB, e_lenSc, e_lenS, e_tupT, e_tupL, e_tupO, e_tupB, e_lisT, e_lisL, e_lisO, e_lisB, e_min2, e_max2, e_any, e_all, e_sum, e_sorted, e_rev, e_sl, e_oN, e_isi, e_lc, e_wipe0, e_wipe1, e_iA, e_iAb, e_gAq1, e_gAq2, e_gAq3, e_gAqb1, e_gAqb2, e_gAqb3, e_gAqb4, e_no, e_cCh, e_cChI, e_aug, e_decT, e_decF, e_cDispS, e_cDT, e_cDK, e_cDisp1, e_storeA, e_stR1, e_stR2, e_stR3, e_sd1, e_keyD1, e_keyD2, e_keyTD, e_intsD, e_intsD0, e_borT, e_borT2, e_borK, e_borK2, e_argT, e_argT2, e_argK, e_argK2, e_nbT, e_nbK, e_putT, e_putK, e_gAt1, e_gAt2, e_gAt3, e_gAt4, e_gGetDK, e_gGetDT, e_gIxD, e_gInD, e_gNotInD, e_cGet1, e_cGet2, e_dk1, e_dk2, e_dk3, e_dk4, e_dt1, e_dt2, e_del, atI_zero, e_at1, e_at2, e_at3, e_at4, e_at5, e_at6, e_at7, e_at8, e_at9, e_atm, e_V, e_retV, e_unp, e_app, e_store, e_fzE, oS, rsO_some, Rs.bind_ok, Rs.bind_no, Rs.out_ok, Out.then_nx, Out.then_rt, Out.then_ct, Out.then_bk, fin_rt, fin_nx, List.getElem?_cons_zero, List.getElem?_cons_succ, List.set_cons_succ, List.set_cons_zero, List.length_cons, List.length_nil, Nat.reduceAdd, Nat.reduceLT, Nat.reduceLeDiff, Nat.reduceEqDiff, if_true, if_false, Bool.false_eq_true, Bool.not_true, Bool.not_false, and_self, true_and, and_true, List.map_cons, List.map_nil, Option.map_some, sh_int, sh_bool, sh_none, sh_tup, sh_lst, eqv_int, reduceIte, Option.bind_some, Option.bind_none, kitB_ll, kitB_lt, kitB_tt, kitB_tl, kitB_ii, tyD_list, tyD_int, Bool.true_and, Bool.false_and, Bool.and_true, Bool.and_false, Bool.or_true, Bool.true_or, Bool.false_or, Bool.or_false, Bool.and_self, Bool.or_self, e_cAK, List.append_nil, List.nil_append, List.cons_append, e_andB, e_orB, e_andR, e_orR, tyD_tuple, eqv_bool, eqv_none, tyD_bool, tyD_str, tyD_none, kitB_bb, kitB_nb, kitB_bi, kitB_ib, kitB_nl, kitB_nt, beq_self_eq_true, hln, hdec, hk, Nat.zero_le, hp, e_while, hl]
  · have hdec : decide ((st.length : Int) ≤ (r : Int)) = false := decide_eq_false (by omega)
    rw [if_neg c]
    have hl : loopW (cB (c2 gLt (cV 5) (cA gLen (aC (cV 4) aN)))) L1__law_ways 100000 [some (.d (.tuple (encU us))), some (.d (.int r)), some (.d (tupD st)), some (.ot []), some (.ol []), some (.d (.int 0)), none, none, none] = .nx [some (.d (.tuple (encU us))), some (.d (.int r)), some (.d (tupD st)), some (.ot []), some (.ol []), some (.d (.int 0)), none, none, none] := by
      rw [show (100000 : Nat) = 99999 + 1 from rfl, loopW_succ]
      simp only [e_nil, e_seq, e_fz, e_bk, e_ct, e_ret, e_retN, e_drop, e_set, e_if, e_for, e_cC, e_c2, e_c1, e_cA, e_aN, e_aC, e_cB, e_asB, e_bNot, e_bAnd, e_bOr, e_vAnd, e_vOr, e_vNot, e_vIf, e_bYes, e_iL, e_iT, e_iLb, e_iR, e_gL1, e_gL2, e_gL3, e_gT, e_gLb1, e_gLb2, e_gLb3, e_gLb4, e_nb1, e_nb2, e_bor1, e_bor2, e_bor3, e_bor4, e_arg1, e_arg2, e_arg3, e_arg4, e_putd, e_puto, e_toD1, e_toD2, e_allD0, e_allD1, e_allD2, e_gTupl, e_gList, e_tgnm, e_tgtp, e_tg0, e_tg1, e_sq1, e_sq2, e_sq3, e_sq4, e_sq5, e_qv2, e_qv3, e_qv4, e_qv5, e_data1, e_data2, e_data3, e_okI, e_okB, e_i2, e_sub, e_mul, e_mod, e_div, e_pow, e_lt, e_le, e_gt, e_ge, e_neg, e_addI, e_addS, e_addT, e_addL1, e_addL2, e_addL3, e_addL4, e_addL5, e_addL6, e_addL7, e_addL8, e_addL9, e_eq, e_ne, e_in, e_notIn, e_inT, e_inT2, e_inL1, e_inL2, e_inL3, e_is, e_isNot, e_isN1, e_isN2, e_isN3, e_isN4, e_isN5, e_isN6, e_isN7, e_ixT, e_ixL, e_ixO, e_ixB, e_ixSc, e_lenT, e_lenL, e_lenO, e_lenB, e_lenSc, e_lenS, e_tupT, e_tupL, e_tupO, e_tupB, e_lisT, e_lisL, e_lisO, e_lisB, e_min2, e_max2, e_any, e_all, e_sum, e_sorted, e_rev, e_sl, e_oN, e_isi, e_lc, e_wipe0, e_wipe1, e_iA, e_iAb, e_gAq1, e_gAq2, e_gAq3, e_gAqb1, e_gAqb2, e_gAqb3, e_gAqb4, e_no, e_cCh, e_cChI, e_aug, e_decT, e_decF, e_cDispS, e_cDT, e_cDK, e_cDisp1, e_storeA, e_stR1, e_stR2, e_stR3, e_sd1, e_keyD1, e_keyD2, e_keyTD, e_intsD, e_intsD0, e_borT, e_borT2, e_borK, e_borK2, e_argT, e_argT2, e_argK, e_argK2, e_nbT, e_nbK, e_putT, e_putK, e_gAt1, e_gAt2, e_gAt3, e_gAt4, e_gGetDK, e_gGetDT, e_gIxD, e_gInD, e_gNotInD, e_cGet1, e_cGet2, e_dk1, e_dk2, e_dk3, e_dk4, e_dt1, e_dt2, e_del, atI_zero, e_at1, e_at2, e_at3, e_at4, e_at5, e_at6, e_at7, e_at8, e_at9, e_atm, e_V, e_retV, e_unp, e_app, e_store, e_fzE, oS, rsO_some, Rs.bind_ok, Rs.bind_no, Rs.out_ok, Out.then_nx, Out.then_rt, Out.then_ct, Out.then_bk, fin_rt, fin_nx, List.getElem?_cons_zero, List.getElem?_cons_succ, List.set_cons_succ, List.set_cons_zero, List.length_cons, List.length_nil, Nat.reduceAdd, Nat.reduceLT, Nat.reduceLeDiff, Nat.reduceEqDiff, if_true, if_false, Bool.false_eq_true, Bool.not_true, Bool.not_false, and_self, true_and, and_true, List.map_cons, List.map_nil, Option.map_some, sh_int, sh_bool, sh_none, sh_tup, sh_lst, eqv_int, reduceIte, Option.bind_some, Option.bind_none, kitB_ll, kitB_lt, kitB_tt, kitB_tl, kitB_ii, tyD_list, tyD_int, Bool.true_and, Bool.false_and, Bool.and_true, Bool.and_false, Bool.or_true, Bool.true_or, Bool.false_or, Bool.or_false, Bool.and_self, Bool.or_self, e_cAK, List.append_nil, List.nil_append, List.cons_append, e_andB, e_orB, e_andR, e_orR, tyD_tuple, eqv_bool, eqv_none, tyD_bool, tyD_str, tyD_none, kitB_bb, kitB_nb, kitB_bi, kitB_ib, kitB_nl, kitB_nt, beq_self_eq_true]
      rfl
    simp only [e_nil, e_seq, e_fz, e_bk, e_ct, e_ret, e_retN, e_drop, e_set, e_if, e_for, e_cC, e_c2, e_c1, e_cA, e_aN, e_aC, e_cB, e_asB, e_bNot, e_bAnd, e_bOr, e_vAnd, e_vOr, e_vNot, e_vIf, e_bYes, e_iL, e_iT, e_iLb, e_iR, e_gL1, e_gL2, e_gL3, e_gT, e_gLb1, e_gLb2, e_gLb3, e_gLb4, e_nb1, e_nb2, e_bor1, e_bor2, e_bor3, e_bor4, e_arg1, e_arg2, e_arg3, e_arg4, e_putd, e_puto, e_toD1, e_toD2, e_allD0, e_allD1, e_allD2, e_gTupl, e_gList, e_tgnm, e_tgtp, e_tg0, e_tg1, e_sq1, e_sq2, e_sq3, e_sq4, e_sq5, e_qv2, e_qv3, e_qv4, e_qv5, e_data1, e_data2, e_data3, e_okI, e_okB, e_i2, e_sub, e_mul, e_mod, e_div, e_pow, e_lt, e_le, e_gt, e_ge, e_neg, e_addI, e_addS, e_addT, e_addL1, e_addL2, e_addL3, e_addL4, e_addL5, e_addL6, e_addL7, e_addL8, e_addL9, e_eq, e_ne, e_in, e_notIn, e_inT, e_inT2, e_inL1, e_inL2, e_inL3, e_is, e_isNot, e_isN1, e_isN2, e_isN3, e_isN4, e_isN5, e_isN6, e_isN7, e_ixT, e_ixL, e_ixO, e_ixB, e_ixSc, e_lenT, e_lenL, e_lenO, e_lenB, e_lenSc, e_lenS, e_tupT, e_tupL, e_tupO, e_tupB, e_lisT, e_lisL, e_lisO, e_lisB, e_min2, e_max2, e_any, e_all, e_sum, e_sorted, e_rev, e_sl, e_oN, e_isi, e_lc, e_wipe0, e_wipe1, e_iA, e_iAb, e_gAq1, e_gAq2, e_gAq3, e_gAqb1, e_gAqb2, e_gAqb3, e_gAqb4, e_no, e_cCh, e_cChI, e_aug, e_decT, e_decF, e_cDispS, e_cDT, e_cDK, e_cDisp1, e_storeA, e_stR1, e_stR2, e_stR3, e_sd1, e_keyD1, e_keyD2, e_keyTD, e_intsD, e_intsD0, e_borT, e_borT2, e_borK, e_borK2, e_argT, e_argT2, e_argK, e_argK2, e_nbT, e_nbK, e_putT, e_putK, e_gAt1, e_gAt2, e_gAt3, e_gAt4, e_gGetDK, e_gGetDT, e_gIxD, e_gInD, e_gNotInD, e_cGet1, e_cGet2, e_dk1, e_dk2, e_dk3, e_dk4, e_dt1, e_dt2, e_del, atI_zero, e_at1, e_at2, e_at3, e_at4, e_at5, e_at6, e_at7, e_at8, e_at9, e_atm, e_V, e_retV, e_unp, e_app, e_store, e_fzE, oS, rsO_some, Rs.bind_ok, Rs.bind_no, Rs.out_ok, Out.then_nx, Out.then_rt, Out.then_ct, Out.then_bk, fin_rt, fin_nx, List.getElem?_cons_zero, List.getElem?_cons_succ, List.set_cons_succ, List.set_cons_zero, List.length_cons, List.length_nil, Nat.reduceAdd, Nat.reduceLT, Nat.reduceLeDiff, Nat.reduceEqDiff, if_true, if_false, Bool.false_eq_true, Bool.not_true, Bool.not_false, and_self, true_and, and_true, List.map_cons, List.map_nil, Option.map_some, sh_int, sh_bool, sh_none, sh_tup, sh_lst, eqv_int, reduceIte, Option.bind_some, Option.bind_none, kitB_ll, kitB_lt, kitB_tt, kitB_tl, kitB_ii, tyD_list, tyD_int, Bool.true_and, Bool.false_and, Bool.and_true, Bool.and_false, Bool.or_true, Bool.true_or, Bool.false_or, Bool.or_false, Bool.and_self, Bool.or_self, e_cAK, List.append_nil, List.nil_append, List.cons_append, e_andB, e_orB, e_andR, e_orR, tyD_tuple, eqv_bool, eqv_none, tyD_bool, tyD_str, tyD_none, kitB_bb, kitB_nb, kitB_bi, kitB_ib, kitB_nl, kitB_nt, beq_self_eq_true, hln, hdec, e_while, hl]
    rfl
theorem tg_encT (us : List (List Int)) (ts : List Int) (i j : Nat) (env : VEnv) : tgE (.tp [i, j]) (encT us ts) env = tgEs [i, j] [.tuple (encU us), tupD ts] env := rfl
theorem kd_tup (h : List Int) : keyTD (tupD h) = some h := intsD_map h
theorem len_tupD (h : List Int) : gLen [.d (tupD h)] = .ok (.d (.int h.length)) := by rw [tupD, e_lenT, List.length_map]
theorem sh_tupD (h : List Int) : SeqAt.shaped (tupD h) = true := sh_tup _
theorem eqv_tupD (h g : List Int) : PyData.eqv (tupD h) (tupD g) = decide (h = g) := eqv_tup _ _
theorem cf_nil (n : Nat) : Cf n [] := ⟨.nil, by simp⟩
theorem draw1 (ns : List Int) (k n : Nat) (h : 0 < n ∧ n < 1000000) : ∃ d : Nat, F__law_draw [.sc ns, .d (.int k), .d (.list [.int n])] = .ok (.ol [.int d]) ∧ d < n := by
  obtain ⟨nd, p, l, b⟩ := draw_nat ns k [n] (by simpa using h) (by simp)
  obtain ⟨d, rfl⟩ : ∃ a, nd = [a] := by match nd, l with | [a], _ => exact ⟨a, rfl⟩
  obtain ⟨d', q, b⟩ := b 0 n rfl
  cases q
  exact ⟨d, p, b⟩
/-! ### searches that can be gone back, and the first of the shortest -/
section
variable {C L : Type} [DecidableEq C] {succ : C → List (L × C)} {lt : L → L → Prop}
theorem Path.cons {c0 c1 c : C} {l : L} {p : List L} (h : (l, c1) ∈ succ c0) (hp : Path succ c1 p c) : Path succ c0 (l :: p) c := by
  induction hp with
  | nil => exact .snoc (p := []) .nil h
  | @snoc p c d l' _ hs ih => exact .snoc (p := l :: p) ih hs
theorem Path.head {c0 c : C} {q : List L} (h : Path succ c0 q c) : (q = [] ∧ c = c0) ∨ ∃ l p c1, q = l :: p ∧ (l, c1) ∈ succ c0 ∧ Path succ c1 p c := by
  induction h with
  | nil => exact .inl ⟨rfl, rfl⟩
  | @snoc p c d l hp hs ih =>
    rcases ih with ⟨rfl, rfl⟩ | ⟨l', p', c1, rfl, h1, h2⟩
    · exact .inr ⟨l, [], d, rfl, hs, .nil⟩
    · exact .inr ⟨l', p' ++ [l], c1, rfl, h1, .snoc h2 hs⟩
theorem Path.uncons {c0 c : C} {l : L} {p : List L} (h : Path succ c0 (l :: p) c) : ∃ c1, (l, c1) ∈ succ c0 ∧ Path succ c1 p c := by
  rcases h.head with ⟨h, _⟩ | ⟨l', p', c1, h, h1, h2⟩
  · cases h
  · injection h with e1 e2
    subst e1 e2
    exact ⟨c1, h1, h2⟩
/-- a step can be taken back -/
structure Back (succ : C → List (L × C)) (I : C → Prop) : Prop where
  keep : ∀ c d l, I c → (l, d) ∈ succ c → I d
  back : ∀ c d l, I c → (l, d) ∈ succ c → (l, c) ∈ succ d
  det : ∀ c d d' l, (l, d) ∈ succ c → (l, d') ∈ succ c → d = d'
variable {I : C → Prop}
theorem Back.path (B : Back succ I) {c0 c : C} {p : List L} (h0 : I c0) (h : Path succ c0 p c) : I c ∧ Path succ c p.reverse c0 := by
  induction h with
  | nil => exact ⟨h0, .nil⟩
  | @snoc p c d l hp hs ih =>
    refine ⟨B.keep _ _ _ ih.1 hs, ?_⟩
    rw [List.reverse_append]
    exact Path.cons (B.back _ _ _ ih.1 hs) ih.2
/-- the least of the shortest rows of steps -/
structure BestP (succ : C → List (L × C)) (lt : L → L → Prop) (h g : C) (p : List L) : Prop where
  ok : Path succ h p g
  least : ∀ q, Path succ h q g → p = q ∨ SL lt p q
theorem Tab.bestP {h g : C} {T : List (C × List L)} (t : Tab (succ := succ) lt h T) {p : List L} (e : tget T g = some p) : BestP succ lt h g p := by
  refine ⟨t.sound _ _ e, fun q hq => ?_⟩
  obtain ⟨q', e', z⟩ := t.best _ _ hq
  rw [e] at e'
  cases e'
  exact z
theorem SL_consP {x : L} (ir : ∀ a, ¬ lt a a) {p q : List L} (h : x :: p = x :: q ∨ SL lt (x :: p) (x :: q)) : p = q ∨ SL lt p q := by
  rcases h with h | h | ⟨h1, h2 | ⟨_, h2⟩⟩
  · left; injection h
  · right; left; simpa using h
  · exact absurd h2 (ir x)
  · right; right; exact ⟨by simpa using h1, h2⟩
theorem BestP.tail (ir : ∀ a, ¬ lt a a) {h h1 g : C} {t : List L} {m : L} (b : BestP succ lt h g (m :: t)) (B : Back succ I) (hs : (m, h1) ∈ succ h) : BestP succ lt h1 g t := by
  obtain ⟨c1, k1, k2⟩ := b.ok.uncons
  have := B.det _ _ _ _ hs k1
  subst this
  exact ⟨k2, fun q hq => SL_consP ir (b.least _ (Path.cons hs hq))⟩
theorem dist_bestP (B : Back succ I) {h g : C} {p : List L} (hh : I h) (b : BestP succ lt h g p) {T : List (C × List L)} (t : Tab (succ := succ) lt g T) : (tget T h).map List.length = some p.length := by
  obtain ⟨ig, k1⟩ := B.path hh b.ok
  obtain ⟨q, e, z⟩ := t.best _ _ k1
  have l1 := SL.len z
  have s1 := t.sound _ _ e
  obtain ⟨_, t1⟩ := B.path ig s1
  have l2 := SL.len (b.least _ t1)
  rw [List.length_reverse] at l1 l2
  rw [e]
  exact congrArg some (by omega)
theorem dist_noneP (B : Back succ I) {h g : C} (ih : I h) (ig : I g) {T U : List (C × List L)} (t : Tab (succ := succ) lt g T) (u : Tab (succ := succ) lt h U) (e : tget U g = none) : tget T h = none := by
  cases z : tget T h with
  | none => rfl
  | some q =>
    obtain ⟨_, k⟩ := B.path ig (t.sound _ _ z)
    obtain ⟨q', e', _⟩ := u.best _ _ k
    rw [e] at e'
    cases e'
/-- a step that may be chosen: it leads to where the rest is one shorter -/
theorem cand_headP (B : Back succ I) (ir : ∀ a, ¬ lt a a) {h h1 g : C} {t : List L} {m : L} (hh : I h) (b : BestP succ lt h g (m :: t)) (hs : (m, h1) ∈ succ h) {T : List (C × List L)} (tb : Tab (succ := succ) lt g T) : (tget T h1).map List.length = some t.length :=
  dist_bestP B (B.keep _ _ _ hh hs) (b.tail ir B hs) tb
theorem cand_leastP (B : Back succ I) (ir : ∀ a, ¬ lt a a) (tr : ∀ a b c, lt a b → lt b c → lt a c) {h h1 g : C} {t : List L} {m x : L} (hh : I h) (ig : I g) (b : BestP succ lt h g (m :: t)) (hs : (x, h1) ∈ succ h) (hx : lt x m) {T : List (C × List L)} (tb : Tab (succ := succ) lt g T) : (tget T h1).map List.length ≠ some t.length := by
  intro z
  cases e : tget T h1 with
  | none => rw [e] at z; cases z
  | some q =>
    rw [e] at z
    have hq : q.length = t.length := by injection z
    obtain ⟨_, k⟩ := B.path ig (tb.sound _ _ e)
    rcases b.least _ (Path.cons hs k) with w | w | ⟨_, w | ⟨w, _⟩⟩
    · injection w with w _; subst w; exact ir _ hx
    · simp at w; omega
    · exact ir _ (tr _ _ _ w hx)
    · subst w; exact ir _ hx
end
theorem Nice.up {k l : Nat} {d : PyData} (h : Nice k d) (hl : k ≤ l) : Nice l d := ⟨h.1, Nat.le_trans h.2 hl⟩
theorem tupsI_map : ∀ xs : List (List Int), tupsI (xs.map tupD) = some xs
  | [] => rfl
  | x :: xs => by
    rw [List.map_cons]
    show (intsD (x.map .int)).bind _ = _
    rw [intsD_map, Option.bind_some, tupsI_map xs]
    rfl
theorem cf_len : ∀ (n : Nat) {c : List Int}, Cf n c → c.length ≤ n
  | 0, c, h => by
    cases c with
    | nil => simp
    | cons x c => have := h.2 x List.mem_cons_self; omega
  | n + 1, c, h => by
    rcases cf_last h with z | ⟨d, rfl, hd⟩
    · have := cf_len n z.2; omega
    · have := cf_len n hd; simp; omega
/-! ### the found rows are short -/
section
variable {C L : Type} [DecidableEq C] {succ : C → List (L × C)} {lt : L → L → Prop}
theorem Bfs.short {c0 : C} {T : List (C × List L)} {i : Nat} (b : Bfs (succ := succ) lt c0 T i) : ∀ e ∈ T, e.2.length < T.length := by
  have key : ∀ (k : Nat) (e : C × List L), e ∈ T → e.2.length = k → ∀ j ≤ k, j ∈ T.map fun e => e.2.length := by
    intro k
    induction k with
    | zero =>
      intro e he hk j hj
      obtain rfl : j = 0 := by omega
      exact List.mem_map.mpr ⟨e, he, hk⟩
    | succ k ih =>
      intro e he hk j hj
      by_cases c : j = k + 1
      · exact List.mem_map.mpr ⟨e, he, by omega⟩
      · rcases b.bound e he with z | ⟨q, l, z, j', f, _, hf, hq⟩
        · rw [z] at hk; cases hk
        · rw [z, List.length_append, List.length_singleton] at hk
          exact ih f (List.mem_of_getElem? hf) (by rw [hq]; omega) j (by omega)
  intro e he
  have h1 : (List.range (e.2.length + 1)) ⊆ T.map fun e => e.2.length := fun j hj => key _ e he rfl j (by have := List.mem_range.mp hj; omega)
  have h2 := List.Nodup.length_le_of_subset List.nodup_range h1
  rw [List.length_range, List.length_map] at h2
  omega
theorem tab_short (ir : ∀ a, ¬ lt a a) {c0 : C} (hord : ∀ c, (succ c).Pairwise (fun a b => lt a.1 b.1)) (N k : Nat) (hN : ∀ U, Mid (succ := succ) lt c0 U → U.length ≤ N) (hk : N < k) {c : C} {p : List L} (h : tget (runB succ k [(c0, [])] 0) c = some p) : p.length < N := by
  have b := Bfs.run ir hord N hN k _ 0 (Bfs.first c0) (by omega) (by simp)
  have h1 := b.short _ (tget_mem h)
  have h2 := hN _ b.mid
  simp only at h1
  omega
end
/-! ### the levels of a search -/
section
variable {L : Type} {succ : List Int → List (L × List Int)} {lt : L → L → Prop} {c0 : List Int} {T : List (List Int × List L)}
def dst (T : List (List Int × List L)) (x : List Int) : Option Nat := (tget T x).map List.length
def levM (T : List (List Int × List L)) (k : Nat) : List (List Int) := isortT ((T.filter fun e => decide (e.2.length = k)).map (·.1))
theorem lev_mem (n : (T.map (·.1)).Nodup) {x : List Int} {k : Nat} : x ∈ levM T k ↔ dst T x = some k := by
  unfold levM dst
  rw [(isortT_perm _).mem_iff, List.mem_map]
  constructor
  · rintro ⟨e, he, rfl⟩
    have := List.mem_filter.mp he
    rw [tget_of n (p := e.2) this.1]
    exact congrArg some (of_decide_eq_true this.2)
  · intro h
    cases z : tget T x with
    | none => rw [z] at h; cases h
    | some p =>
      rw [z] at h
      injection h with h
      exact ⟨(x, p), List.mem_filter.mpr ⟨tget_mem z, decide_eq_true h⟩, rfl⟩
theorem lev_nodup (n : (T.map (·.1)).Nodup) (k : Nat) : (levM T k).Nodup := by
  unfold levM
  refine (isortT_perm _).nodup_iff.mpr ?_
  refine List.Sublist.nodup ?_ n
  exact List.Sublist.map _ List.filter_sublist
theorem lev_len (k : Nat) : (levM T k).length ≤ T.length := by
  unfold levM
  rw [(isortT_perm _).length_eq, List.length_map]
  exact List.length_filter_le _ _
theorem dst_zero (t : Tab (succ := succ) lt c0 T) {x : List Int} : dst T x = some 0 ↔ x = c0 := by
  unfold dst
  constructor
  · intro h
    cases z : tget T x with
    | none => rw [z] at h; cases h
    | some p =>
      rw [z] at h
      injection h with h
      have := t.sound _ _ z
      rw [List.eq_nil_of_length_eq_zero h] at this
      rcases this.head with ⟨_, e⟩ | ⟨l, q, c1, e, _⟩
      · exact e
      · cases e
  · rintro rfl
    obtain ⟨q, e, z⟩ := t.best _ _ (Path.nil (succ := succ) (c0 := x))
    have := SL.len z
    rw [e]
    exact congrArg some (by simpa using this)
theorem dst_path (t : Tab (succ := succ) lt c0 T) {p : List L} {x : List Int} (h : Path succ c0 p x) : ∃ d, dst T x = some d ∧ d ≤ p.length := by
  obtain ⟨q, e, z⟩ := t.best _ _ h
  exact ⟨q.length, by unfold dst; rw [e]; rfl, SL.len z⟩
theorem dst_sound (t : Tab (succ := succ) lt c0 T) {x : List Int} {k : Nat} (h : dst T x = some k) : ∃ p, Path succ c0 p x ∧ p.length = k := by
  unfold dst at h
  cases z : tget T x with
  | none => rw [z] at h; cases h
  | some p =>
    rw [z] at h
    injection h with h
    exact ⟨p, t.sound _ _ z, h⟩
theorem dst_succ (t : Tab (succ := succ) lt c0 T) {x y : List Int} {l : L} {k : Nat} (h : dst T y = some k) (hs : (l, x) ∈ succ y) : ∃ d, dst T x = some d ∧ d ≤ k + 1 := by
  obtain ⟨p, hp, e⟩ := dst_sound t h
  obtain ⟨d, h1, h2⟩ := dst_path t (Path.snoc hp hs)
  exact ⟨d, h1, by simpa [e] using h2⟩
theorem dst_pred (t : Tab (succ := succ) lt c0 T) {x : List Int} {k : Nat} (h : dst T x = some (k + 1)) : ∃ y l, (l, x) ∈ succ y ∧ dst T y = some k := by
  obtain ⟨p, hp, e⟩ := dst_sound t h
  cases hp with
  | nil => cases e
  | @snoc p y _ l hp hs =>
    rw [List.length_append, List.length_singleton] at e
    obtain ⟨d, h1, h2⟩ := dst_path t hp
    obtain ⟨d', h3, h4⟩ := dst_succ t h1 hs
    rw [h] at h3
    cases h3
    exact ⟨y, l, hs, by rw [h1]; exact congrArg some (by omega)⟩
/-- how many levels there are -/
structure Depth (T : List (List Int × List L)) (D : Nat) : Prop where
  none : levM T D = []
  some : ∀ k, k < D → levM T k ≠ []
  all : ∀ x d, dst T x = Option.some d → d < D
theorem depth_ex (t : Tab (succ := succ) lt c0 T) (N : Nat) (h : ∀ e ∈ T, e.2.length < N) : ∃ D, D ≤ N ∧ Depth T D := by
  have h0 : levM T N = [] := by
    rw [List.eq_nil_iff_forall_not_mem]
    intro x hx
    have := (lev_mem t.nodup).mp hx
    unfold dst at this
    cases z : tget T x with
    | none => rw [z] at this; cases this
    | some p =>
      rw [z] at this
      injection this with this
      have := h _ (tget_mem z)
      simp only at this
      omega
  have least : ∀ n, levM T n = [] → ∃ D, D ≤ n ∧ levM T D = [] ∧ ∀ k, k < D → levM T k ≠ [] := by
    intro n
    induction n using Nat.strongRecOn with
    | _ n ih =>
      intro hn
      by_cases c : ∀ k, k < n → levM T k ≠ []
      · exact ⟨n, Nat.le_refl _, hn, c⟩
      · obtain ⟨k, c⟩ := Classical.not_forall.mp c
        obtain ⟨hk, c⟩ := Classical.not_imp.mp c
        obtain ⟨D, h1, h2⟩ := ih k hk (Classical.not_not.mp c)
        exact ⟨D, by omega, h2⟩
  obtain ⟨D, h1, h2, h3⟩ := least N h0
  have low : ∀ d x, dst T x = Option.some d → D ≤ d → False := by
    intro d
    induction d with
    | zero =>
      intro x hx hd
      obtain rfl : D = 0 := by omega
      have := (lev_mem t.nodup).mpr hx
      rw [h2] at this
      cases this
    | succ d ih =>
      intro x hx hd
      by_cases c : D = d + 1
      · have := (lev_mem t.nodup).mpr hx
        rw [← c, h2] at this
        cases this
      · obtain ⟨y, l, _, hy⟩ := dst_pred t hx
        exact ih y hy (by omega)
  exact ⟨D, h1, h2, h3, fun x d hx => by
    by_cases c : d < D
    · exact c
    · exact (low d x hx (by omega)).elim⟩
/-! the level behind a level, by what was met -/
def scanM (s : List (List Int) × List (List Int)) (x : List Int) : List (List Int) × List (List Int) := if x ∈ s.1 then s else (s.1 ++ [x], s.2 ++ [x])
theorem scan_ok : ∀ (xs : List (List Int)) (R V : List (List Int)), ∃ W, xs.foldl scanM (R, V) = (R ++ W, V ++ W) ∧ W.Nodup ∧ (∀ x, x ∈ W ↔ x ∈ xs ∧ x ∉ R) ∧ W.length ≤ xs.length
  | [], R, V => ⟨[], by simp, .nil, by simp, by simp⟩
  | x :: xs, R, V => by
    rw [List.foldl_cons]
    by_cases h : x ∈ R
    · rw [show scanM (R, V) x = (R, V) from if_pos h]
      obtain ⟨W, h1, h2, h3, h4⟩ := scan_ok xs R V
      refine ⟨W, h1, h2, fun y => ?_, by simp; omega⟩
      rw [h3, List.mem_cons]
      constructor
      · exact fun z => ⟨.inr z.1, z.2⟩
      · rintro ⟨rfl | z, w⟩
        · exact absurd h w
        · exact ⟨z, w⟩
    · rw [show scanM (R, V) x = (R ++ [x], V ++ [x]) from if_neg h]
      obtain ⟨W, h1, h2, h3, h4⟩ := scan_ok xs (R ++ [x]) (V ++ [x])
      refine ⟨x :: W, by rw [h1]; simp, List.nodup_cons.mpr ⟨fun z => ((h3 x).mp z).2 (by simp), h2⟩, fun y => ?_, by simp; omega⟩
      rw [List.mem_cons, h3, List.mem_cons, List.mem_append, List.mem_singleton]
      constructor
      · rintro (rfl | ⟨z, w⟩)
        · exact ⟨.inl rfl, h⟩
        · exact ⟨.inr z, fun c => w (.inl c)⟩
      · rintro ⟨rfl | z, w⟩
        · exact .inl rfl
        · by_cases c : y = x
          · exact .inl c
          · exact .inr ⟨z, fun q => q.elim w c⟩
def allNext (succ : List Int → List (L × List Int)) (hs : List (List Int)) : List (List Int) := hs.flatMap fun h => (succ h).map (·.2)
/-- reached so far -/
def Met (T : List (List Int × List L)) (k : Nat) (R : List (List Int)) : Prop := R.Nodup ∧ ∀ x, x ∈ R ↔ ∃ d, dst T x = some d ∧ d ≤ k
theorem met_next (t : Tab (succ := succ) lt c0 T) {k : Nat} {R : List (List Int)} (m : Met T k R) : ∃ W, (allNext succ (levM T k)).foldl scanM (R, []) = (R ++ W, W) ∧ isortT W = levM T (k + 1) ∧ Met T (k + 1) (R ++ W) := by
  obtain ⟨W, h1, h2, h3, _⟩ := scan_ok (allNext succ (levM T k)) R []
  have hW : ∀ x, x ∈ W ↔ dst T x = some (k + 1) := by
    intro x
    rw [h3]
    constructor
    · rintro ⟨hx, hn⟩
      obtain ⟨y, hy, hx⟩ := List.mem_flatMap.mp hx
      obtain ⟨⟨l, x'⟩, hs, rfl⟩ := List.mem_map.mp hx
      obtain ⟨d, e, hd⟩ := dst_succ t ((lev_mem t.nodup).mp hy) hs
      by_cases c : d ≤ k
      · exact absurd ((m.2 _).mpr ⟨d, e, c⟩) hn
      · rw [e]; exact congrArg some (by omega)
    · intro h
      obtain ⟨y, l, hs, hy⟩ := dst_pred t h
      refine ⟨List.mem_flatMap.mpr ⟨y, (lev_mem t.nodup).mpr hy, List.mem_map.mpr ⟨_, hs, rfl⟩⟩, fun z => ?_⟩
      obtain ⟨d, e, hd⟩ := (m.2 x).mp z
      rw [h] at e
      cases e
      omega
  refine ⟨W, by simpa using h1, ?_, ?_, fun x => ?_⟩
  · refine sortedT_uniq ?_ (isortT_sorted _) (by unfold levM; exact isortT_sorted _)
    refine (isortT_perm W).trans ((List.perm_ext_iff_of_nodup h2 (lev_nodup t.nodup _)).mpr fun x => ?_)
    rw [hW, lev_mem t.nodup]
  · rw [List.nodup_append]
    exact ⟨m.1, h2, fun a ha b hb e => ((h3 b).mp hb).2 (e ▸ ha)⟩
  · rw [List.mem_append, m.2, hW]
    constructor
    · rintro (⟨d, e, hd⟩ | h)
      · exact ⟨d, e, by omega⟩
      · exact ⟨k + 1, h, Nat.le_refl _⟩
    · rintro ⟨d, e, hd⟩
      by_cases c : d = k + 1
      · exact .inr (c ▸ e)
      · exact .inl ⟨d, e, by omega⟩
theorem met_first (t : Tab (succ := succ) lt c0 T) : Met T 0 [c0] ∧ levM T 0 = [c0] := by
  refine ⟨⟨by simp, fun x => ?_⟩, ?_⟩
  · rw [List.mem_singleton]
    constructor
    · exact fun e => ⟨0, (dst_zero t).mpr e, Nat.le_refl _⟩
    · rintro ⟨d, e, hd⟩
      obtain rfl : d = 0 := by omega
      exact (dst_zero t).mp e
  · have : levM T 0 = isortT [c0] := by
      refine sortedT_uniq ?_ (by unfold levM; exact isortT_sorted _) (isortT_sorted _)
      refine List.Perm.trans ((List.perm_ext_iff_of_nodup (lev_nodup t.nodup 0) (by simp)).mpr fun x => ?_) (isortT_perm [c0]).symm
      rw [lev_mem t.nodup, dst_zero t, List.mem_singleton]
    rw [this]
    rfl
theorem met_len {N : Nat} {k : Nat} {R : List (List Int)} (m : Met T k R) (hN : T.length ≤ N) : R.length ≤ N := by
  have : R ⊆ T.map (·.1) := fun x hx => by
    obtain ⟨d, e, _⟩ := (m.2 x).mp hx
    unfold dst at e
    cases z : tget T x with
    | none => rw [z] at e; cases e
    | some p => exact List.mem_map.mpr ⟨_, tget_mem z, rfl⟩
  have := List.Nodup.length_le_of_subset m.1 this
  rw [List.length_map] at this
  omega
end
/-! ### the program's levels, walked -/
theorem tups_nice_levels_of (p : List (List Int)) : Nice 3 (.list (p.map tupD)) := Nice.lst fun d hd => by
  obtain ⟨s, _, rfl⟩ := List.mem_map.mp hd
  refine Nice.up (k := 1) (Nice.tup fun e he => ?_) (by decide)
  obtain ⟨i, _, rfl⟩ := List.mem_map.mp he
  exact Nice.int 0 _
theorem mem_levels_of (x : List Int) (R : List (List Int)) : gInB (.d (tupD x)) (.bl (R.map tupD)) = .ok (decide (x ∈ R)) := by
  have h1 : SeqAt.shaped (tupD x) = true := sh_tup _
  have h2 := (tups_nice_levels_of R).shaped (by decide)
  rw [e_inL3, if_pos ⟨h1, h2⟩]
  congr 1
  rw [List.any_map]
  induction R with
  | nil => rfl
  | cons y R ih =>
    have e : PyData.eqv (tupD y) (tupD x) = decide (y = x) := eqv_tup _ _
    have e : ((fun z => z.eqv (tupD x)) ∘ tupD) y = decide (y = x) := e
    rw [List.any_cons, ih (tups_nice_levels_of R |>.shaped (by decide)), e]
    by_cases c : y = x
    · subst c; simp
    · have c' : ¬ x = y := fun z => c z.symm
      simp [c, c']
theorem in_levels_of (a b : Option RV) (lv : Option RV) (e5 : Option RV) : ∀ (es : List (Int × List Int)) (R V : List (List Int)) (e6 e7 : Option RV), R.length + es.length ≤ 900000 → V.length + es.length ≤ 900000 →
    ∃ e6' e7', loopF (.tp [6, 7]) L0_levels_of (encM es) [a, b, some (.ol (R.map tupD)), lv, some (.ol (V.map tupD)), e5, e6, e7]
      = .nx [a, b, some (.ol (((es.map (·.2)).foldl scanM (R, V)).1.map tupD)), lv, some (.ol (((es.map (·.2)).foldl scanM (R, V)).2.map tupD)), e5, e6', e7']
  | [], R, V, e6, e7, _, _ => ⟨e6, e7, rfl⟩
  | (l, x) :: es, R, V, e6, e7, hR, hV => by
    rw [List.length_cons] at hR hV
    have hm : encM ((l, x) :: es) = .tuple [PyData.int l, tupD x] :: encM es := rfl
    have hmem := mem_levels_of x R
    have lr : (R.map tupD).length = R.length := List.length_map ..
    have lv' : (V.map tupD).length = V.length := List.length_map ..
    rw [hm, loopF_cons]
    have ht : tgE (.tp [6, 7]) (.tuple [PyData.int l, tupD x]) [a, b, some (.ol (R.map tupD)), lv, some (.ol (V.map tupD)), e5, e6, e7] = some [a, b, some (.ol (R.map tupD)), lv, some (.ol (V.map tupD)), e5, some (.d (PyData.int l)), some (.d (tupD x))] := rfl
    rw [ht, List.map_cons, List.foldl_cons]
    by_cases c : x ∈ R
    · rw [show scanM (R, V) x = (R, V) from if_pos c]
      obtain ⟨e6', e7', ih⟩ := in_levels_of a b lv e5 es R V (some (.d (PyData.int l))) (some (.d (tupD x))) (by omega) (by omega)
      refine ⟨e6', e7', ?_⟩
      have hb : L0_levels_of [a, b, some (.ol (R.map tupD)), lv, some (.ol (V.map tupD)), e5, some (.d (PyData.int l)), some (.d (tupD x))] = .nx [a, b, some (.ol (R.map tupD)), lv, some (.ol (V.map tupD)), e5, some (.d (PyData.int l)), some (.d (tupD x))] := by
        rw [decide_eq_true c] at hmem
        generalize PyData.int l = ll at *
        generalize tupD x = X at *
        generalize R.map tupD = RR at *
        generalize V.map tupD = VV at *
        unfold L0_levels_of
        simp only [e_seq, e_if, e_cB, e_c2, e_V, List.getElem?_cons_zero, List.getElem?_cons_succ, Rs.bind_ok, e_bor1, e_bor2, e_notIn, hmem, e_okB, e_asB, Rs.out_ok, Bool.not_true, Bool.false_eq_true, if_false, e_nil, Out.then_nx]
      simp only [hb, lp_nx]
      exact ih
    · rw [show scanM (R, V) x = (R ++ [x], V ++ [x]) from if_neg c]
      obtain ⟨e6', e7', ih⟩ := in_levels_of a b lv e5 es (R ++ [x]) (V ++ [x]) (some (.d (PyData.int l))) (some (.d (tupD x))) (by simp; omega) (by simp; omega)
      refine ⟨e6', e7', ?_⟩
      have hb : L0_levels_of [a, b, some (.ol (R.map tupD)), lv, some (.ol (V.map tupD)), e5, some (.d (PyData.int l)), some (.d (tupD x))] = .nx [a, b, some (.ol ((R ++ [x]).map tupD)), lv, some (.ol ((V ++ [x]).map tupD)), e5, some (.d (PyData.int l)), some (.d (tupD x))] := by
        rw [decide_eq_false c] at hmem
        rw [List.map_append, List.map_append]
        show _ = Out.nx [a, b, some (.ol (R.map tupD ++ [tupD x])), lv, some (.ol (V.map tupD ++ [tupD x])), e5, some (.d (PyData.int l)), some (.d (tupD x))]
        generalize PyData.int l = ll at *
        generalize tupD x = X at *
        generalize R.map tupD = RR at *
        generalize V.map tupD = VV at *
        unfold L0_levels_of
        have q : c2 gNotIn (cV 7) (cV 2) [a, b, some (.ol RR), lv, some (.ol VV), e5, some (.d ll), some (.d X)] = .ok (.d (.bool true)) := by
          simp only [e_c2, e_V, List.getElem?_cons_zero, List.getElem?_cons_succ, Rs.bind_ok, e_bor1, e_bor2, e_notIn, hmem, e_okB, Bool.not_false]
        generalize c2 gNotIn (cV 7) (cV 2) = fq at q ⊢
        simp only [e_nil, e_seq, e_fz, e_bk, e_ct, e_ret, e_retN, e_drop, e_set, e_if, e_for, e_cC, e_c2, e_c1, e_cA, e_aN, e_aC, e_cB, e_asB, e_bNot, e_bAnd, e_bOr, e_vAnd, e_vOr, e_vNot, e_vIf, e_bYes, e_iL, e_iT, e_iLb, e_iR, e_gL1, e_gL2, e_gL3, e_gT, e_gLb1, e_gLb2, e_gLb3, e_gLb4, e_nb1, e_nb2, e_bor1, e_bor2, e_bor3, e_bor4, e_arg1, e_arg2, e_arg3, e_arg4, e_putd, e_puto, e_toD1, e_toD2, e_allD0, e_allD1, e_allD2, e_gTupl, e_gList, e_tgnm, e_tgtp, e_tg0, e_tg1, e_sq1, e_sq2, e_sq3, e_sq4, e_sq5, e_qv2, e_qv3, e_qv4, e_qv5, e_data1, e_data2, e_data3, e_okI, e_okB, e_i2, e_sub, e_mul, e_mod, e_div, e_pow, e_lt, e_le, e_gt, e_ge, e_neg, e_addI, e_addS, e_addT, e_addL1, e_addL2, e_addL3, e_addL4, e_addL5, e_addL6, e_addL7, e_addL8, e_addL9, e_eq, e_ne, e_in, e_notIn, e_inT, e_inT2, e_inL1, e_inL2, e_inL3, e_is, e_isNot, e_isN1, e_isN2, e_isN3, e_isN4, e_isN5, e_isN6, e_isN7, e_ixT, e_ixL, e_ixO, e_ixB, e_ixSc, e_lenT, e_lenL, e_lenO, e_lenB, e_lenSc, e_lenS, e_tupT, e_tupL, e_tupO, e_tupB, e_lisT, e_lisL, e_lisO, e_lisB, e_min2, e_max2, e_any, e_all, e_sum, e_sorted, e_rev, e_sl, e_oN, e_isi, e_lc, e_wipe0, e_wipe1, e_iA, e_iAb, e_gAq1, e_gAq2, e_gAq3, e_gAqb1, e_gAqb2, e_gAqb3, e_gAqb4, e_no, e_cCh, e_cChI, e_aug, e_decT, e_decF, e_cDispS, e_cDT, e_cDK, e_cDisp1, e_storeA, e_stR1, e_stR2, e_stR3, e_sd1, e_keyD1, e_keyD2, e_keyTD, e_intsD, e_intsD0, e_borT, e_borT2, e_borK, e_borK2, e_argT, e_argT2, e_argK, e_argK2, e_nbT, e_nbK, e_putT, e_putK, e_gAt1, e_gAt2, e_gAt3, e_gAt4, e_gGetDK, e_gGetDT, e_gIxD, e_gInD, e_gNotInD, e_cGet1, e_cGet2, e_dk1, e_dk2, e_dk3, e_dk4, e_dt1, e_dt2, e_del, atI_zero, e_at1, e_at2, e_at3, e_at4, e_at5, e_at6, e_at7, e_at8, e_at9, e_atm, e_V, e_retV, e_unp, e_app, e_store, e_fzE, oS, rsO_some, Rs.bind_ok, Rs.bind_no, Rs.out_ok, Out.then_nx, Out.then_rt, Out.then_ct, Out.then_bk, fin_rt, fin_nx, List.getElem?_cons_zero, List.getElem?_cons_succ, List.set_cons_succ, List.set_cons_zero, List.length_cons, List.length_nil, Nat.reduceAdd, Nat.reduceLT, Nat.reduceLeDiff, Nat.reduceEqDiff, if_true, if_false, Bool.false_eq_true, Bool.not_true, Bool.not_false, and_self, true_and, and_true, List.map_cons, List.map_nil, Option.map_some, sh_int, sh_bool, sh_none, sh_tup, sh_lst, eqv_int, reduceIte, Option.bind_some, Option.bind_none, kitB_ll, kitB_lt, kitB_tt, kitB_tl, kitB_ii, tyD_list, tyD_int, Bool.true_and, Bool.false_and, Bool.and_true, Bool.and_false, Bool.or_true, Bool.true_or, Bool.false_or, Bool.or_false, Bool.and_self, Bool.or_self, e_cAK, List.append_nil, List.nil_append, List.cons_append, e_andB, e_orB, e_andR, e_orR, tyD_tuple, eqv_bool, eqv_none, tyD_bool, tyD_str, tyD_none, kitB_bb, kitB_nb, kitB_bi, kitB_ib, kitB_nl, kitB_nt, beq_self_eq_true, q, lr, lv', if_pos (show R.length ≤ 1000000 by omega), if_pos (show V.length ≤ 1000000 by omega)]
      simp only [hb, lp_nx]
      exact ih
theorem mid_levels_of (us : List (List Int)) (ts : List Int) (reg : Nat) (lv : Option RV) (hu : us.length ≤ 8) : ∀ (hs : List (List Int)) (R V : List (List Int)) (e5 e6 e7 : Option RV), (∀ h ∈ hs, Cf us.length h) → R.length + 256 * hs.length ≤ 800000 → V.length + 256 * hs.length ≤ 800000 →
    ∃ e5' e6' e7', loopF (.nm 5) L1_levels_of (hs.map tupD) [some (.d (encT us ts)), some (.d (.int reg)), some (.ol (R.map tupD)), lv, some (.ol (V.map tupD)), e5, e6, e7]
      = .nx [some (.d (encT us ts)), some (.d (.int reg)), some (.ol (((allNext (succM us reg) hs).foldl scanM (R, V)).1.map tupD)), lv, some (.ol (((allNext (succM us reg) hs).foldl scanM (R, V)).2.map tupD)), e5', e6', e7']
  | [], R, V, e5, e6, e7, _, _, _ => ⟨e5, e6, e7, rfl⟩
  | h :: hs, R, V, e5, e6, e7, hc, hR, hV => by
    rw [List.length_cons] at hR hV
    have ch := hc h List.mem_cons_self
    have lh := cf_len _ ch
    have htr := trans_ok us ts h reg (by omega) (by omega)
    have sl := succM_len us reg h
    obtain ⟨e6', e7', hin⟩ := in_levels_of (some (.d (encT us ts))) (some (.d (.int reg))) lv (some (.d (tupD h))) (succM us reg h) R V e6 e7 (by omega) (by omega)
    obtain ⟨W, hW, _, _, hl⟩ := scan_ok ((succM us reg h).map (·.2)) R V
    rw [List.length_map] at hl
    have e : (allNext (succM us reg) (h :: hs)).foldl scanM (R, V) = (allNext (succM us reg) hs).foldl scanM (R ++ W, V ++ W) := by
      show (List.flatMap _ (h :: hs)).foldl scanM (R, V) = _
      rw [List.flatMap_cons, List.foldl_append, hW]
      rfl
    rw [hW] at hin
    obtain ⟨f5, f6, f7, ih⟩ := mid_levels_of us ts reg lv hu hs (R ++ W) (V ++ W) (some (.d (tupD h))) e6' e7' (fun x hx => hc x (List.mem_cons_of_mem _ hx)) (by simp; omega) (by simp; omega)
    refine ⟨f5, f6, f7, ?_⟩
    rw [e, List.map_cons, loopF_cons]
    have ht : tgE (.nm 5) (tupD h) [some (.d (encT us ts)), some (.d (.int reg)), some (.ol (R.map tupD)), lv, some (.ol (V.map tupD)), e5, e6, e7] = some [some (.d (encT us ts)), some (.d (.int reg)), some (.ol (R.map tupD)), lv, some (.ol (V.map tupD)), some (.d (tupD h)), e6, e7] := rfl
    rw [ht]
    have hb : L1_levels_of [some (.d (encT us ts)), some (.d (.int reg)), some (.ol (R.map tupD)), lv, some (.ol (V.map tupD)), some (.d (tupD h)), e6, e7] = .nx [some (.d (encT us ts)), some (.d (.int reg)), some (.ol ((R ++ W).map tupD)), lv, some (.ol ((V ++ W).map tupD)), some (.d (tupD h)), e6', e7'] := by
      simp only at hin
      generalize (R ++ W).map tupD = RW at *
      generalize (V ++ W).map tupD = VW at *
      generalize R.map tupD = RR at *
      generalize V.map tupD = VV at *
      generalize encT us ts = EE at *
      generalize tupD h = H at *
      unfold L1_levels_of
      simp only [e_nil, e_seq, e_fz, e_bk, e_ct, e_ret, e_retN, e_drop, e_set, e_if, e_for, e_cC, e_c2, e_c1, e_cA, e_aN, e_aC, e_cB, e_asB, e_bNot, e_bAnd, e_bOr, e_vAnd, e_vOr, e_vNot, e_vIf, e_bYes, e_iL, e_iT, e_iLb, e_iR, e_gL1, e_gL2, e_gL3, e_gT, e_gLb1, e_gLb2, e_gLb3, e_gLb4, e_nb1, e_nb2, e_bor1, e_bor2, e_bor3, e_bor4, e_arg1, e_arg2, e_arg3, e_arg4, e_putd, e_puto, e_toD1, e_toD2, e_allD0, e_allD1, e_allD2, e_gTupl, e_gList, e_tgnm, e_tgtp, e_tg0, e_tg1, e_sq1, e_sq2, e_sq3, e_sq4, e_sq5, e_qv2, e_qv3, e_qv4, e_qv5, e_data1, e_data2, e_data3, e_okI, e_okB, e_i2, e_sub, e_mul, e_mod, e_div, e_pow, e_lt, e_le, e_gt, e_ge, e_neg, e_addI, e_addS, e_addT, e_addL1, e_addL2, e_addL3, e_addL4, e_addL5, e_addL6, e_addL7, e_addL8, e_addL9, e_eq, e_ne, e_in, e_notIn, e_inT, e_inT2, e_inL1, e_inL2, e_inL3, e_is, e_isNot, e_isN1, e_isN2, e_isN3, e_isN4, e_isN5, e_isN6, e_isN7, e_ixT, e_ixL, e_ixO, e_ixB, e_ixSc, e_lenT, e_lenL, e_lenO, e_lenB, e_lenSc, e_lenS, e_tupT, e_tupL, e_tupO, e_tupB, e_lisT, e_lisL, e_lisO, e_lisB, e_min2, e_max2, e_any, e_all, e_sum, e_sorted, e_rev, e_sl, e_oN, e_isi, e_lc, e_wipe0, e_wipe1, e_iA, e_iAb, e_gAq1, e_gAq2, e_gAq3, e_gAqb1, e_gAqb2, e_gAqb3, e_gAqb4, e_no, e_cCh, e_cChI, e_aug, e_decT, e_decF, e_cDispS, e_cDT, e_cDK, e_cDisp1, e_storeA, e_stR1, e_stR2, e_stR3, e_sd1, e_keyD1, e_keyD2, e_keyTD, e_intsD, e_intsD0, e_borT, e_borT2, e_borK, e_borK2, e_argT, e_argT2, e_argK, e_argK2, e_nbT, e_nbK, e_putT, e_putK, e_gAt1, e_gAt2, e_gAt3, e_gAt4, e_gGetDK, e_gGetDT, e_gIxD, e_gInD, e_gNotInD, e_cGet1, e_cGet2, e_dk1, e_dk2, e_dk3, e_dk4, e_dt1, e_dt2, e_del, atI_zero, e_at1, e_at2, e_at3, e_at4, e_at5, e_at6, e_at7, e_at8, e_at9, e_atm, e_V, e_retV, e_unp, e_app, e_store, e_fzE, oS, rsO_some, Rs.bind_ok, Rs.bind_no, Rs.out_ok, Out.then_nx, Out.then_rt, Out.then_ct, Out.then_bk, fin_rt, fin_nx, List.getElem?_cons_zero, List.getElem?_cons_succ, List.set_cons_succ, List.set_cons_zero, List.length_cons, List.length_nil, Nat.reduceAdd, Nat.reduceLT, Nat.reduceLeDiff, Nat.reduceEqDiff, if_true, if_false, Bool.false_eq_true, Bool.not_true, Bool.not_false, and_self, true_and, and_true, List.map_cons, List.map_nil, Option.map_some, sh_int, sh_bool, sh_none, sh_tup, sh_lst, eqv_int, reduceIte, Option.bind_some, Option.bind_none, kitB_ll, kitB_lt, kitB_tt, kitB_tl, kitB_ii, tyD_list, tyD_int, Bool.true_and, Bool.false_and, Bool.and_true, Bool.and_false, Bool.or_true, Bool.true_or, Bool.false_or, Bool.or_false, Bool.and_self, Bool.or_self, e_cAK, List.append_nil, List.nil_append, List.cons_append, e_andB, e_orB, e_andR, e_orR, tyD_tuple, eqv_bool, eqv_none, tyD_bool, tyD_str, tyD_none, kitB_bb, kitB_nb, kitB_bi, kitB_ib, kitB_nl, kitB_nt, beq_self_eq_true, e_iA, htr, hin]
    simp only [hb, lp_nx]
    exact ih
def levD (l : List (List Int)) : PyData := .tuple (l.map tupD)
theorem out_levels_of (us : List (List Int)) (ts : List Int) (reg : Nat) (hu : us.length ≤ 8) {T : List (List Int × List Int)} (t : Tab (succ := succM us reg) (· < ·) [] T) (hT : T.length ≤ 256) (hcf : ∀ e ∈ T, Cf us.length e.1) {D : Nat} (hD : Depth T D) (hD2 : D ≤ 300) (n : Nat) : ∀ (k i : Nat), i + k = D → ∀ (R : List (List Int)) (e4 e5 e6 e7 : Option RV), Met T i R →
    ∃ e2' e4' e5' e6' e7', loopW (cB (c2 gGt (cA gLen (aC (c2 gIx (cV 3) (c1 gNeg (cC (.int 1)))) aN)) (cC (.int 0)))) L2_levels_of (k + 1 + n) [some (.d (encT us ts)), some (.d (.int reg)), some (.ol (R.map tupD)), some (.ol ((List.range (i + 1)).map fun j => levD (levM T j))), e4, e5, e6, e7]
      = .nx [some (.d (encT us ts)), some (.d (.int reg)), e2', some (.ol ((List.range (D + 1)).map fun j => levD (levM T j))), e4', e5', e6', e7'] := by
  have lastI : ∀ i : Nat, gIx (.bl ((List.range (i + 1)).map fun j => levD (levM T j))) (.d (.int (-1))) = .ok (.d (levD (levM T i))) := by
    intro i
    have : (List.range (i + 1)).map (fun j => levD (levM T j)) = (List.range i).map (fun j => levD (levM T j)) ++ [levD (levM T i)] := by rw [List.range_succ, List.map_append]; rfl
    rw [this]
    simp only [e_nil, e_seq, e_fz, e_bk, e_ct, e_ret, e_retN, e_drop, e_set, e_if, e_for, e_cC, e_c2, e_c1, e_cA, e_aN, e_aC, e_cB, e_asB, e_bNot, e_bAnd, e_bOr, e_vAnd, e_vOr, e_vNot, e_vIf, e_bYes, e_iL, e_iT, e_iLb, e_iR, e_gL1, e_gL2, e_gL3, e_gT, e_gLb1, e_gLb2, e_gLb3, e_gLb4, e_nb1, e_nb2, e_bor1, e_bor2, e_bor3, e_bor4, e_arg1, e_arg2, e_arg3, e_arg4, e_putd, e_puto, e_toD1, e_toD2, e_allD0, e_allD1, e_allD2, e_gTupl, e_gList, e_tgnm, e_tgtp, e_tg0, e_tg1, e_sq1, e_sq2, e_sq3, e_sq4, e_sq5, e_qv2, e_qv3, e_qv4, e_qv5, e_data1, e_data2, e_data3, e_okI, e_okB, e_i2, e_sub, e_mul, e_mod, e_div, e_pow, e_lt, e_le, e_gt, e_ge, e_neg, e_addI, e_addS, e_addT, e_addL1, e_addL2, e_addL3, e_addL4, e_addL5, e_addL6, e_addL7, e_addL8, e_addL9, e_eq, e_ne, e_in, e_notIn, e_inT, e_inT2, e_inL1, e_inL2, e_inL3, e_is, e_isNot, e_isN1, e_isN2, e_isN3, e_isN4, e_isN5, e_isN6, e_isN7, e_ixT, e_ixL, e_ixO, e_ixB, e_ixSc, e_lenT, e_lenL, e_lenO, e_lenB, e_lenSc, e_lenS, e_tupT, e_tupL, e_tupO, e_tupB, e_lisT, e_lisL, e_lisO, e_lisB, e_min2, e_max2, e_any, e_all, e_sum, e_sorted, e_rev, e_sl, e_oN, e_isi, e_lc, e_wipe0, e_wipe1, e_iA, e_iAb, e_gAq1, e_gAq2, e_gAq3, e_gAqb1, e_gAqb2, e_gAqb3, e_gAqb4, e_no, e_cCh, e_cChI, e_aug, e_decT, e_decF, e_cDispS, e_cDT, e_cDK, e_cDisp1, e_storeA, e_stR1, e_stR2, e_stR3, e_sd1, e_keyD1, e_keyD2, e_keyTD, e_intsD, e_intsD0, e_borT, e_borT2, e_borK, e_borK2, e_argT, e_argT2, e_argK, e_argK2, e_nbT, e_nbK, e_putT, e_putK, e_gAt1, e_gAt2, e_gAt3, e_gAt4, e_gGetDK, e_gGetDT, e_gIxD, e_gInD, e_gNotInD, e_cGet1, e_cGet2, e_dk1, e_dk2, e_dk3, e_dk4, e_dt1, e_dt2, e_del, atI_zero, e_at1, e_at2, e_at3, e_at4, e_at5, e_at6, e_at7, e_at8, e_at9, e_atm, e_V, e_retV, e_unp, e_app, e_store, e_fzE, oS, rsO_some, Rs.bind_ok, Rs.bind_no, Rs.out_ok, Out.then_nx, Out.then_rt, Out.then_ct, Out.then_bk, fin_rt, fin_nx, List.getElem?_cons_zero, List.getElem?_cons_succ, List.set_cons_succ, List.set_cons_zero, List.length_cons, List.length_nil, Nat.reduceAdd, Nat.reduceLT, Nat.reduceLeDiff, Nat.reduceEqDiff, if_true, if_false, Bool.false_eq_true, Bool.not_true, Bool.not_false, and_self, true_and, and_true, List.map_cons, List.map_nil, Option.map_some, sh_int, sh_bool, sh_none, sh_tup, sh_lst, eqv_int, reduceIte, Option.bind_some, Option.bind_none, kitB_ll, kitB_lt, kitB_tt, kitB_tl, kitB_ii, tyD_list, tyD_int, Bool.true_and, Bool.false_and, Bool.and_true, Bool.and_false, Bool.or_true, Bool.true_or, Bool.false_or, Bool.or_false, Bool.and_self, Bool.or_self, e_cAK, List.append_nil, List.nil_append, List.cons_append, e_andB, e_orB, e_andR, e_orR, tyD_tuple, eqv_bool, eqv_none, tyD_bool, tyD_str, tyD_none, kitB_bb, kitB_nb, kitB_bi, kitB_ib, kitB_nl, kitB_nt, beq_self_eq_true]
  have lnI : ∀ i : Nat, gLen [.d (levD (levM T i))] = .ok (.d (.int ((levM T i).length : Int))) := by
    intro i
    unfold levD
    rw [e_lenT, List.length_map]
  intro k
  induction k with
  | zero =>
    intro i hi R e4 e5 e6 e7 m
    obtain rfl : i = D := by omega
    have l0 : (levM T i).length = 0 := by rw [hD.none]; rfl
    have h1 := lastI i
    have h2 := lnI i
    rw [l0] at h2
    refine ⟨some (.ol (R.map tupD)), e4, e5, e6, e7, ?_⟩
    rw [show 0 + 1 + n = n + 1 by omega, loopW_succ]
    generalize (List.range (i + 1)).map (fun j => levD (levM T j)) = LL at *
    generalize levD (levM T i) = LI at *
    generalize encT us ts = EE at *
    generalize R.map tupD = RR at *
    simp only [e_nil, e_seq, e_fz, e_bk, e_ct, e_ret, e_retN, e_drop, e_set, e_if, e_for, e_cC, e_c2, e_c1, e_cA, e_aN, e_aC, e_cB, e_asB, e_bNot, e_bAnd, e_bOr, e_vAnd, e_vOr, e_vNot, e_vIf, e_bYes, e_iL, e_iT, e_iLb, e_iR, e_gL1, e_gL2, e_gL3, e_gT, e_gLb1, e_gLb2, e_gLb3, e_gLb4, e_nb1, e_nb2, e_bor1, e_bor2, e_bor3, e_bor4, e_arg1, e_arg2, e_arg3, e_arg4, e_putd, e_puto, e_toD1, e_toD2, e_allD0, e_allD1, e_allD2, e_gTupl, e_gList, e_tgnm, e_tgtp, e_tg0, e_tg1, e_sq1, e_sq2, e_sq3, e_sq4, e_sq5, e_qv2, e_qv3, e_qv4, e_qv5, e_data1, e_data2, e_data3, e_okI, e_okB, e_i2, e_sub, e_mul, e_mod, e_div, e_pow, e_lt, e_le, e_gt, e_ge, e_neg, e_addI, e_addS, e_addT, e_addL1, e_addL2, e_addL3, e_addL4, e_addL5, e_addL6, e_addL7, e_addL8, e_addL9, e_eq, e_ne, e_in, e_notIn, e_inT, e_inT2, e_inL1, e_inL2, e_inL3, e_is, e_isNot, e_isN1, e_isN2, e_isN3, e_isN4, e_isN5, e_isN6, e_isN7, e_ixT, e_ixL, e_ixO, e_ixB, e_ixSc, e_lenT, e_lenL, e_lenO, e_lenB, e_lenSc, e_lenS, e_tupT, e_tupL, e_tupO, e_tupB, e_lisT, e_lisL, e_lisO, e_lisB, e_min2, e_max2, e_any, e_all, e_sum, e_sorted, e_rev, e_sl, e_oN, e_isi, e_lc, e_wipe0, e_wipe1, e_iA, e_iAb, e_gAq1, e_gAq2, e_gAq3, e_gAqb1, e_gAqb2, e_gAqb3, e_gAqb4, e_no, e_cCh, e_cChI, e_aug, e_decT, e_decF, e_cDispS, e_cDT, e_cDK, e_cDisp1, e_storeA, e_stR1, e_stR2, e_stR3, e_sd1, e_keyD1, e_keyD2, e_keyTD, e_intsD, e_intsD0, e_borT, e_borT2, e_borK, e_borK2, e_argT, e_argT2, e_argK, e_argK2, e_nbT, e_nbK, e_putT, e_putK, e_gAt1, e_gAt2, e_gAt3, e_gAt4, e_gGetDK, e_gGetDT, e_gIxD, e_gInD, e_gNotInD, e_cGet1, e_cGet2, e_dk1, e_dk2, e_dk3, e_dk4, e_dt1, e_dt2, e_del, atI_zero, e_at1, e_at2, e_at3, e_at4, e_at5, e_at6, e_at7, e_at8, e_at9, e_atm, e_V, e_retV, e_unp, e_app, e_store, e_fzE, oS, rsO_some, Rs.bind_ok, Rs.bind_no, Rs.out_ok, Out.then_nx, Out.then_rt, Out.then_ct, Out.then_bk, fin_rt, fin_nx, List.getElem?_cons_zero, List.getElem?_cons_succ, List.set_cons_succ, List.set_cons_zero, List.length_cons, List.length_nil, Nat.reduceAdd, Nat.reduceLT, Nat.reduceLeDiff, Nat.reduceEqDiff, if_true, if_false, Bool.false_eq_true, Bool.not_true, Bool.not_false, and_self, true_and, and_true, List.map_cons, List.map_nil, Option.map_some, sh_int, sh_bool, sh_none, sh_tup, sh_lst, eqv_int, reduceIte, Option.bind_some, Option.bind_none, kitB_ll, kitB_lt, kitB_tt, kitB_tl, kitB_ii, tyD_list, tyD_int, Bool.true_and, Bool.false_and, Bool.and_true, Bool.and_false, Bool.or_true, Bool.true_or, Bool.false_or, Bool.or_false, Bool.and_self, Bool.or_self, e_cAK, List.append_nil, List.nil_append, List.cons_append, e_andB, e_orB, e_andR, e_orR, tyD_tuple, eqv_bool, eqv_none, tyD_bool, tyD_str, tyD_none, kitB_bb, kitB_nb, kitB_bi, kitB_ib, kitB_nl, kitB_nt, beq_self_eq_true, h1, h2]
    rfl
  | succ k ih =>
    intro i hi R e4 e5 e6 e7 m
    have hne := hD.some i (by omega)
    have lpos : 0 < (levM T i).length := List.length_pos_iff.mpr hne
    have hdec : decide (((levM T i).length : Int) > 0) = true := decide_eq_true (by omega)
    have h1 := lastI i
    have h2 := lnI i
    obtain ⟨W, hW, hsort, hmet⟩ := met_next t m
    have lR := met_len m hT
    have lL := lev_len (T := T) i
    have cfi : ∀ h ∈ levM T i, Cf us.length h := fun h hh => by
      have := (lev_mem t.nodup).mp hh
      unfold dst at this
      cases z : tget T h with
      | none => rw [z] at this; cases this
      | some p => exact hcf _ (tget_mem z)
    obtain ⟨f5, f6, f7, hmid⟩ := mid_levels_of us ts reg (some (.ol ((List.range (i + 1)).map fun j => levD (levM T j)))) hu (levM T i) R [] e5 e6 e7 cfi (by omega) (by simp; omega)
    rw [hW] at hmid
    simp only at hmid
    have hmid : loopF (.nm 5) L1_levels_of ((levM T i).map tupD) [some (.d (encT us ts)), some (.d (.int reg)), some (.ol (R.map tupD)), some (.ol ((List.range (i + 1)).map fun j => levD (levM T j))), some (.ol []), e5, e6, e7] = _ := hmid
    obtain ⟨g2, g4, g5, g6, g7, ih⟩ := ih (i + 1) (by omega) (R ++ W) (some (.ol (W.map tupD))) f5 f6 f7 hmet
    refine ⟨g2, g4, g5, g6, g7, ?_⟩
    rw [show k + 1 + 1 + n = (k + 1 + n) + 1 by omega, loopW_succ]
    have hT' : (isortT W).map (fun r : List Int => PyData.tuple (r.map .int)) = (levM T (i + 1)).map tupD := by rw [hsort]; rfl
    have hiA : gAq (.d (levD (levM T i))) = .ok ((levM T i).map tupD) := rfl
    have hcat : (List.range (i + 1 + 1)).map (fun j => levD (levM T j)) = (List.range (i + 1)).map (fun j => levD (levM T j)) ++ [.tuple ((levM T (i + 1)).map tupD)] := by rw [List.range_succ (n := i + 1), List.map_append]; rfl
    have hlen : ((List.range (i + 1)).map fun j => levD (levM T j)).length = i + 1 := by rw [List.length_map, List.length_range]
    have hb : L2_levels_of [some (.d (encT us ts)), some (.d (.int reg)), some (.ol (R.map tupD)), some (.ol ((List.range (i + 1)).map fun j => levD (levM T j))), e4, e5, e6, e7] = .nx [some (.d (encT us ts)), some (.d (.int reg)), some (.ol ((R ++ W).map tupD)), some (.ol ((List.range (i + 1 + 1)).map fun j => levD (levM T j))), some (.ol (W.map tupD)), f5, f6, f7] := by
      rw [hcat]
      have tW := tupsI_map W
      generalize (List.range (i + 1)).map (fun j => levD (levM T j)) = LL at *
      generalize levD (levM T i) = LI at *
      generalize (levM T (i + 1)).map tupD = LN at *
      generalize encT us ts = EE at *
      generalize (R ++ W).map tupD = RW at *
      generalize W.map tupD = WW at *
      generalize R.map tupD = RR at *
      unfold L2_levels_of
      simp only [e_nil, e_seq, e_fz, e_bk, e_ct, e_ret, e_retN, e_drop, e_set, e_if, e_for, e_cC, e_c2, e_c1, e_cA, e_aN, e_aC, e_cB, e_asB, e_bNot, e_bAnd, e_bOr, e_vAnd, e_vOr, e_vNot, e_vIf, e_bYes, e_iL, e_iT, e_iLb, e_iR, e_gL1, e_gL2, e_gL3, e_gT, e_gLb1, e_gLb2, e_gLb3, e_gLb4, e_nb1, e_nb2, e_bor1, e_bor2, e_bor3, e_bor4, e_arg1, e_arg2, e_arg3, e_arg4, e_putd, e_puto, e_toD1, e_toD2, e_allD0, e_allD1, e_allD2, e_gTupl, e_gList, e_tgnm, e_tgtp, e_tg0, e_tg1, e_sq1, e_sq2, e_sq3, e_sq4, e_sq5, e_qv2, e_qv3, e_qv4, e_qv5, e_data1, e_data2, e_data3, e_okI, e_okB, e_i2, e_sub, e_mul, e_mod, e_div, e_pow, e_lt, e_le, e_gt, e_ge, e_neg, e_addI, e_addS, e_addT, e_addL1, e_addL2, e_addL3, e_addL4, e_addL5, e_addL6, e_addL7, e_addL8, e_addL9, e_eq, e_ne, e_in, e_notIn, e_inT, e_inT2, e_inL1, e_inL2, e_inL3, e_is, e_isNot, e_isN1, e_isN2, e_isN3, e_isN4, e_isN5, e_isN6, e_isN7, e_ixT, e_ixL, e_ixO, e_ixB, e_ixSc, e_lenT, e_lenL, e_lenO, e_lenB, e_lenSc, e_lenS, e_tupT, e_tupL, e_tupO, e_tupB, e_lisT, e_lisL, e_lisO, e_lisB, e_min2, e_max2, e_any, e_all, e_sum, e_sorted, e_rev, e_sl, e_oN, e_isi, e_lc, e_wipe0, e_wipe1, e_iA, e_iAb, e_gAq1, e_gAq2, e_gAq3, e_gAqb1, e_gAqb2, e_gAqb3, e_gAqb4, e_no, e_cCh, e_cChI, e_aug, e_decT, e_decF, e_cDispS, e_cDT, e_cDK, e_cDisp1, e_storeA, e_stR1, e_stR2, e_stR3, e_sd1, e_keyD1, e_keyD2, e_keyTD, e_intsD, e_intsD0, e_borT, e_borT2, e_borK, e_borK2, e_argT, e_argT2, e_argK, e_argK2, e_nbT, e_nbK, e_putT, e_putK, e_gAt1, e_gAt2, e_gAt3, e_gAt4, e_gGetDK, e_gGetDT, e_gIxD, e_gInD, e_gNotInD, e_cGet1, e_cGet2, e_dk1, e_dk2, e_dk3, e_dk4, e_dt1, e_dt2, e_del, atI_zero, e_at1, e_at2, e_at3, e_at4, e_at5, e_at6, e_at7, e_at8, e_at9, e_atm, e_V, e_retV, e_unp, e_app, e_store, e_fzE, oS, rsO_some, Rs.bind_ok, Rs.bind_no, Rs.out_ok, Out.then_nx, Out.then_rt, Out.then_ct, Out.then_bk, fin_rt, fin_nx, List.getElem?_cons_zero, List.getElem?_cons_succ, List.set_cons_succ, List.set_cons_zero, List.length_cons, List.length_nil, Nat.reduceAdd, Nat.reduceLT, Nat.reduceLeDiff, Nat.reduceEqDiff, if_true, if_false, Bool.false_eq_true, Bool.not_true, Bool.not_false, and_self, true_and, and_true, List.map_cons, List.map_nil, Option.map_some, sh_int, sh_bool, sh_none, sh_tup, sh_lst, eqv_int, reduceIte, Option.bind_some, Option.bind_none, kitB_ll, kitB_lt, kitB_tt, kitB_tl, kitB_ii, tyD_list, tyD_int, Bool.true_and, Bool.false_and, Bool.and_true, Bool.and_false, Bool.or_true, Bool.true_or, Bool.false_or, Bool.or_false, Bool.and_self, Bool.or_self, e_cAK, List.append_nil, List.nil_append, List.cons_append, e_andB, e_orB, e_andR, e_orR, tyD_tuple, eqv_bool, eqv_none, tyD_bool, tyD_str, tyD_none, kitB_bb, kitB_nb, kitB_bi, kitB_ib, kitB_nl, kitB_nt, beq_self_eq_true, h1, hiA, hmid, e_sortedA, tW, hT', hlen, if_pos (show i ≤ 999999 by omega)]
    have hcond : (cB (c2 gGt (cA gLen (aC (c2 gIx (cV 3) (c1 gNeg (cC (.int 1)))) aN)) (cC (.int 0)))) [some (.d (encT us ts)), some (.d (.int reg)), some (.ol (R.map tupD)), some (.ol ((List.range (i + 1)).map fun j => levD (levM T j))), e4, e5, e6, e7] = .ok true := by
      generalize (List.range (i + 1)).map (fun j => levD (levM T j)) = LL at *
      generalize levD (levM T i) = LI at *
      generalize encT us ts = EE at *
      generalize R.map tupD = RR at *
      simp only [e_nil, e_seq, e_fz, e_bk, e_ct, e_ret, e_retN, e_drop, e_set, e_if, e_for, e_cC, e_c2, e_c1, e_cA, e_aN, e_aC, e_cB, e_asB, e_bNot, e_bAnd, e_bOr, e_vAnd, e_vOr, e_vNot, e_vIf, e_bYes, e_iL, e_iT, e_iLb, e_iR, e_gL1, e_gL2, e_gL3, e_gT, e_gLb1, e_gLb2, e_gLb3, e_gLb4, e_nb1, e_nb2, e_bor1, e_bor2, e_bor3, e_bor4, e_arg1, e_arg2, e_arg3, e_arg4, e_putd, e_puto, e_toD1, e_toD2, e_allD0, e_allD1, e_allD2, e_gTupl, e_gList, e_tgnm, e_tgtp, e_tg0, e_tg1, e_sq1, e_sq2, e_sq3, e_sq4, e_sq5, e_qv2, e_qv3, e_qv4, e_qv5, e_data1, e_data2, e_data3, e_okI, e_okB, e_i2, e_sub, e_mul, e_mod, e_div, e_pow, e_lt, e_le, e_gt, e_ge, e_neg, e_addI, e_addS, e_addT, e_addL1, e_addL2, e_addL3, e_addL4, e_addL5, e_addL6, e_addL7, e_addL8, e_addL9, e_eq, e_ne, e_in, e_notIn, e_inT, e_inT2, e_inL1, e_inL2, e_inL3, e_is, e_isNot, e_isN1, e_isN2, e_isN3, e_isN4, e_isN5, e_isN6, e_isN7, e_ixT, e_ixL, e_ixO, e_ixB, e_ixSc, e_lenT, e_lenL, e_lenO, e_lenB, e_lenSc, e_lenS, e_tupT, e_tupL, e_tupO, e_tupB, e_lisT, e_lisL, e_lisO, e_lisB, e_min2, e_max2, e_any, e_all, e_sum, e_sorted, e_rev, e_sl, e_oN, e_isi, e_lc, e_wipe0, e_wipe1, e_iA, e_iAb, e_gAq1, e_gAq2, e_gAq3, e_gAqb1, e_gAqb2, e_gAqb3, e_gAqb4, e_no, e_cCh, e_cChI, e_aug, e_decT, e_decF, e_cDispS, e_cDT, e_cDK, e_cDisp1, e_storeA, e_stR1, e_stR2, e_stR3, e_sd1, e_keyD1, e_keyD2, e_keyTD, e_intsD, e_intsD0, e_borT, e_borT2, e_borK, e_borK2, e_argT, e_argT2, e_argK, e_argK2, e_nbT, e_nbK, e_putT, e_putK, e_gAt1, e_gAt2, e_gAt3, e_gAt4, e_gGetDK, e_gGetDT, e_gIxD, e_gInD, e_gNotInD, e_cGet1, e_cGet2, e_dk1, e_dk2, e_dk3, e_dk4, e_dt1, e_dt2, e_del, atI_zero, e_at1, e_at2, e_at3, e_at4, e_at5, e_at6, e_at7, e_at8, e_at9, e_atm, e_V, e_retV, e_unp, e_app, e_store, e_fzE, oS, rsO_some, Rs.bind_ok, Rs.bind_no, Rs.out_ok, Out.then_nx, Out.then_rt, Out.then_ct, Out.then_bk, fin_rt, fin_nx, List.getElem?_cons_zero, List.getElem?_cons_succ, List.set_cons_succ, List.set_cons_zero, List.length_cons, List.length_nil, Nat.reduceAdd, Nat.reduceLT, Nat.reduceLeDiff, Nat.reduceEqDiff, if_true, if_false, Bool.false_eq_true, Bool.not_true, Bool.not_false, and_self, true_and, and_true, List.map_cons, List.map_nil, Option.map_some, sh_int, sh_bool, sh_none, sh_tup, sh_lst, eqv_int, reduceIte, Option.bind_some, Option.bind_none, kitB_ll, kitB_lt, kitB_tt, kitB_tl, kitB_ii, tyD_list, tyD_int, Bool.true_and, Bool.false_and, Bool.and_true, Bool.and_false, Bool.or_true, Bool.true_or, Bool.false_or, Bool.or_false, Bool.and_self, Bool.or_self, e_cAK, List.append_nil, List.nil_append, List.cons_append, e_andB, e_orB, e_andR, e_orR, tyD_tuple, eqv_bool, eqv_none, tyD_bool, tyD_str, tyD_none, kitB_bb, kitB_nb, kitB_bi, kitB_ib, kitB_nl, kitB_nt, beq_self_eq_true, h1, h2, hdec]
    simp only [hcond, hb, Rs.out_ok, if_true, lp_nx]
    exact ih
theorem levels_levels_of (us : List (List Int)) (ts : List Int) (reg : Nat) (hu : us.length ≤ 8) {T : List (List Int × List Int)} (t : Tab (succ := succM us reg) (· < ·) [] T) (hT : T.length ≤ 256) (hcf : ∀ e ∈ T, Cf us.length e.1) {D : Nat} (hD : Depth T D) (hD2 : D ≤ 300) : F_levels_of [.d (encT us ts), .d (.int reg)] = .ok (.ol ((List.range D).map fun j => levD (levM T j))) := by
  obtain ⟨m0, l0⟩ := met_first t
  obtain ⟨e2', e4', e5', e6', e7', hw⟩ := out_levels_of us ts reg hu t hT hcf hD hD2 (100000 - D - 1) D 0 (by omega) [[]] none none none none m0
  have e0 : (List.range (0 + 1)).map (fun j => levD (levM T j)) = [.tuple [.tuple []]] := by
    show [levD (levM T 0)] = _
    rw [l0]; rfl
  rw [e0, show D + 1 + (100000 - D - 1) = 100000 by omega] at hw
  have hw : loopW (cB (c2 gGt (cA gLen (aC (c2 gIx (cV 3) (c1 gNeg (cC (.int 1)))) aN)) (cC (.int 0)))) L2_levels_of 100000 [some (.d (encT us ts)), some (.d (.int reg)), some (.ol [.tuple []]), some (.ol [.tuple [.tuple []]]), none, none, none, none] = _ := hw
  have hcut : cutL ((List.range (D + 1)).map fun j => levD (levM T j)) none (some (-1)) = (List.range D).map fun j => levD (levM T j) := by
    unfold cutL
    have h1 : HT.sIx ((List.range (D + 1)).map fun j => levD (levM T j)).length 0 none = 0 := rfl
    have h2 : HT.sIx ((List.range (D + 1)).map fun j => levD (levM T j)).length ((List.range (D + 1)).map fun j => levD (levM T j)).length (some (-1)) = D := by
      rw [List.length_map, List.length_range]
      unfold HT.sIx
      simp
      omega
    rw [h1, h2, List.range_succ, List.map_append]
    simp
  have sl : ∀ xs : List PyData, gSl (.bl xs) none (some (-1)) = .ok (.ol (cutL xs none (some (-1)))) := fun _ => rfl
  show (B_levels_of [some (.d (encT us ts)), some (.d (.int reg)), none, none, none, none, none, none]).fin = _
  unfold B_levels_of
  generalize (List.range (D + 1)).map (fun j => levD (levM T j)) = LL at *
  generalize encT us ts = EE at *
  simp only [e_nil, e_seq, e_fz, e_bk, e_ct, e_ret, e_retN, e_drop, e_set, e_if, e_for, e_cC, e_c2, e_c1, e_cA, e_aN, e_aC, e_cB, e_asB, e_bNot, e_bAnd, e_bOr, e_vAnd, e_vOr, e_vNot, e_vIf, e_bYes, e_iL, e_iT, e_iLb, e_iR, e_gL1, e_gL2, e_gL3, e_gT, e_gLb1, e_gLb2, e_gLb3, e_gLb4, e_nb1, e_nb2, e_bor1, e_bor2, e_bor3, e_bor4, e_arg1, e_arg2, e_arg3, e_arg4, e_putd, e_puto, e_toD1, e_toD2, e_allD0, e_allD1, e_allD2, e_gTupl, e_gList, e_tgnm, e_tgtp, e_tg0, e_tg1, e_sq1, e_sq2, e_sq3, e_sq4, e_sq5, e_qv2, e_qv3, e_qv4, e_qv5, e_data1, e_data2, e_data3, e_okI, e_okB, e_i2, e_sub, e_mul, e_mod, e_div, e_pow, e_lt, e_le, e_gt, e_ge, e_neg, e_addI, e_addS, e_addT, e_addL1, e_addL2, e_addL3, e_addL4, e_addL5, e_addL6, e_addL7, e_addL8, e_addL9, e_eq, e_ne, e_in, e_notIn, e_inT, e_inT2, e_inL1, e_inL2, e_inL3, e_is, e_isNot, e_isN1, e_isN2, e_isN3, e_isN4, e_isN5, e_isN6, e_isN7, e_ixT, e_ixL, e_ixO, e_ixB, e_ixSc, e_lenT, e_lenL, e_lenO, e_lenB, e_lenSc, e_lenS, e_tupT, e_tupL, e_tupO, e_tupB, e_lisT, e_lisL, e_lisO, e_lisB, e_min2, e_max2, e_any, e_all, e_sum, e_sorted, e_rev, e_sl, e_oN, e_isi, e_lc, e_wipe0, e_wipe1, e_iA, e_iAb, e_gAq1, e_gAq2, e_gAq3, e_gAqb1, e_gAqb2, e_gAqb3, e_gAqb4, e_no, e_cCh, e_cChI, e_aug, e_decT, e_decF, e_cDispS, e_cDT, e_cDK, e_cDisp1, e_storeA, e_stR1, e_stR2, e_stR3, e_sd1, e_keyD1, e_keyD2, e_keyTD, e_intsD, e_intsD0, e_borT, e_borT2, e_borK, e_borK2, e_argT, e_argT2, e_argK, e_argK2, e_nbT, e_nbK, e_putT, e_putK, e_gAt1, e_gAt2, e_gAt3, e_gAt4, e_gGetDK, e_gGetDT, e_gIxD, e_gInD, e_gNotInD, e_cGet1, e_cGet2, e_dk1, e_dk2, e_dk3, e_dk4, e_dt1, e_dt2, e_del, atI_zero, e_at1, e_at2, e_at3, e_at4, e_at5, e_at6, e_at7, e_at8, e_at9, e_atm, e_V, e_retV, e_unp, e_app, e_store, e_fzE, oS, rsO_some, Rs.bind_ok, Rs.bind_no, Rs.out_ok, Out.then_nx, Out.then_rt, Out.then_ct, Out.then_bk, fin_rt, fin_nx, List.getElem?_cons_zero, List.getElem?_cons_succ, List.set_cons_succ, List.set_cons_zero, List.length_cons, List.length_nil, Nat.reduceAdd, Nat.reduceLT, Nat.reduceLeDiff, Nat.reduceEqDiff, if_true, if_false, Bool.false_eq_true, Bool.not_true, Bool.not_false, and_self, true_and, and_true, List.map_cons, List.map_nil, Option.map_some, sh_int, sh_bool, sh_none, sh_tup, sh_lst, eqv_int, reduceIte, Option.bind_some, Option.bind_none, kitB_ll, kitB_lt, kitB_tt, kitB_tl, kitB_ii, tyD_list, tyD_int, Bool.true_and, Bool.false_and, Bool.and_true, Bool.and_false, Bool.or_true, Bool.true_or, Bool.false_or, Bool.or_false, Bool.and_self, Bool.or_self, e_cAK, List.append_nil, List.nil_append, List.cons_append, e_andB, e_orB, e_andR, e_orR, tyD_tuple, eqv_bool, eqv_none, tyD_bool, tyD_str, tyD_none, kitB_bb, kitB_nb, kitB_bi, kitB_ib, kitB_nl, kitB_nt, beq_self_eq_true, e_while, hw, sl, hcut]
def lvsD (Ls : List (List (List Int))) : PyData := .tuple (Ls.map levD)
theorem any_tup (x : List Int) : ∀ R : List (List Int), ((R.map tupD).any fun z => PyData.eqv z (tupD x)) = decide (x ∈ R)
  | [] => rfl
  | y :: R => by
    have e : PyData.eqv (tupD y) (tupD x) = decide (y = x) := eqv_tup _ _
    rw [List.map_cons, List.any_cons, any_tup x R, e]
    by_cases c : y = x
    · subst c; simp
    · have c' : ¬ x = y := fun z => c z.symm
      simp [c, c']
theorem lev_nice (l : List (List Int)) : Nice 3 (levD l) := Nice.up (k := 2) (Nice.tup fun d hd => by
  obtain ⟨s, _, rfl⟩ := List.mem_map.mp hd
  refine Nice.tup fun e he => ?_
  obtain ⟨i, _, rfl⟩ := List.mem_map.mp he
  exact Nice.int 0 _) (by decide)
theorem mem_lev (x : List Int) (l : List (List Int)) : gInB (.d (tupD x)) (.d (levD l)) = .ok (decide (x ∈ l)) := by
  have h1 : SeqAt.shaped (tupD x) = true := sh_tup _
  have h2 := (lev_nice l).shaped (by decide)
  unfold levD at h2 ⊢
  unfold tupD at h1 ⊢
  rw [e_inT2, if_pos ⟨h1, h2⟩]
  exact congrArg Rs.ok (any_tup x l)
theorem cut_take (xs : List PyData) (n : Nat) : cutL xs none (some (n : Int)) = xs.take n := by
  unfold cutL
  rw [HT.sIx_nat]
  have : HT.sIx xs.length 0 none = 0 := rfl
  rw [this, List.drop_zero, Nat.sub_zero]
  by_cases h : n ≤ xs.length
  · rw [Nat.min_eq_left h]
  · rw [Nat.min_eq_right (by omega), List.take_of_length_le (Nat.le_refl _), List.take_of_length_le (by omega)]
theorem sl_t (xs : List PyData) (lo hi : Option Int) : gSl (.d (.tuple xs)) lo hi = .ok (.d (.tuple (cutL xs lo hi))) := rfl
def inLs (Ls : List (List (List Int))) (x : List Int) : Bool := Ls.any fun l => decide (x ∈ l)
theorem lvs_take (Ls : List (List (List Int))) (n : Nat) : cutL (Ls.map levD) none (some (n : Int)) = (Ls.take n).map levD := by rw [cut_take, List.map_take]
theorem stands_loop (A : Option RV) (x : List Int) : ∀ (Ls : List (List (List Int))) (e2 : Option RV), ∃ e2', loopF (.nm 2) L0_stands_in (Ls.map levD) [A, some (.d (tupD x)), e2] = if inLs Ls x then .rt (.d (.bool true)) else .nx [A, some (.d (tupD x)), e2']
  | [], e2 => ⟨e2, rfl⟩
  | l :: Ls, e2 => by
    obtain ⟨e2', ih⟩ := stands_loop A x Ls (some (.d (levD l)))
    refine ⟨e2', ?_⟩
    have hm := mem_lev x l
    rw [List.map_cons, loopF_cons]
    have ht : tgE (.nm 2) (levD l) [A, some (.d (tupD x)), e2] = some [A, some (.d (tupD x)), some (.d (levD l))] := rfl
    rw [ht]
    have e : inLs (l :: Ls) x = (decide (x ∈ l) || inLs Ls x) := rfl
    rw [e]
    by_cases c : x ∈ l
    · rw [decide_eq_true c] at hm ⊢
      have hb : L0_stands_in [A, some (.d (tupD x)), some (.d (levD l))] = .rt (.d (.bool true)) := by
        generalize tupD x = X at *
        generalize levD l = LL at *
        unfold L0_stands_in
        simp only [e_seq, e_if, e_cB, e_c2, e_V, List.getElem?_cons_zero, List.getElem?_cons_succ, Rs.bind_ok, e_bor1, e_in, hm, e_okB, e_asB, Rs.out_ok, if_true, e_ret, e_cC]
        try rfl
      simp only [hb, lp_rt, Bool.true_or, if_true]
    · rw [decide_eq_false c] at hm ⊢
      have hb : L0_stands_in [A, some (.d (tupD x)), some (.d (levD l))] = .nx [A, some (.d (tupD x)), some (.d (levD l))] := by
        generalize tupD x = X at *
        generalize levD l = LL at *
        unfold L0_stands_in
        simp only [e_seq, e_if, e_cB, e_c2, e_V, List.getElem?_cons_zero, List.getElem?_cons_succ, Rs.bind_ok, e_bor1, e_in, hm, e_okB, e_asB, Rs.out_ok, Bool.false_eq_true, if_false, e_nil]
      simp only [hb, lp_nx, Bool.false_or]
      exact ih
theorem stands_ok (Ls : List (List (List Int))) (x : List Int) : F_stands_in [.d (lvsD Ls), .d (tupD x)] = .ok (.d (.bool (inLs Ls x))) := by
  obtain ⟨e2', h⟩ := stands_loop (some (.d (lvsD Ls))) x Ls none
  have hi : gAq (.d (lvsD Ls)) = .ok (Ls.map levD) := rfl
  show (B_stands_in [some (.d (lvsD Ls)), some (.d (tupD x)), none]).fin = _
  unfold B_stands_in
  cases c : inLs Ls x with
  | true =>
    rw [c, if_pos rfl] at h
    generalize lvsD Ls = LL at *
    generalize tupD x = X at *
    simp only [e_nil, e_seq, e_fz, e_bk, e_ct, e_ret, e_retN, e_drop, e_set, e_if, e_for, e_cC, e_c2, e_c1, e_cA, e_aN, e_aC, e_cB, e_asB, e_bNot, e_bAnd, e_bOr, e_vAnd, e_vOr, e_vNot, e_vIf, e_bYes, e_iL, e_iT, e_iLb, e_iR, e_gL1, e_gL2, e_gL3, e_gT, e_gLb1, e_gLb2, e_gLb3, e_gLb4, e_nb1, e_nb2, e_bor1, e_bor2, e_bor3, e_bor4, e_arg1, e_arg2, e_arg3, e_arg4, e_putd, e_puto, e_toD1, e_toD2, e_allD0, e_allD1, e_allD2, e_gTupl, e_gList, e_tgnm, e_tgtp, e_tg0, e_tg1, e_sq1, e_sq2, e_sq3, e_sq4, e_sq5, e_qv2, e_qv3, e_qv4, e_qv5, e_data1, e_data2, e_data3, e_okI, e_okB, e_i2, e_sub, e_mul, e_mod, e_div, e_pow, e_lt, e_le, e_gt, e_ge, e_neg, e_addI, e_addS, e_addT, e_addL1, e_addL2, e_addL3, e_addL4, e_addL5, e_addL6, e_addL7, e_addL8, e_addL9, e_eq, e_ne, e_in, e_notIn, e_inT, e_inT2, e_inL1, e_inL2, e_inL3, e_is, e_isNot, e_isN1, e_isN2, e_isN3, e_isN4, e_isN5, e_isN6, e_isN7, e_ixT, e_ixL, e_ixO, e_ixB, e_ixSc, e_lenT, e_lenL, e_lenO, e_lenB, e_lenSc, e_lenS, e_tupT, e_tupL, e_tupO, e_tupB, e_lisT, e_lisL, e_lisO, e_lisB, e_min2, e_max2, e_any, e_all, e_sum, e_sorted, e_rev, e_sl, e_oN, e_isi, e_lc, e_wipe0, e_wipe1, e_iA, e_iAb, e_gAq1, e_gAq2, e_gAq3, e_gAqb1, e_gAqb2, e_gAqb3, e_gAqb4, e_no, e_cCh, e_cChI, e_aug, e_decT, e_decF, e_cDispS, e_cDT, e_cDK, e_cDisp1, e_storeA, e_stR1, e_stR2, e_stR3, e_sd1, e_keyD1, e_keyD2, e_keyTD, e_intsD, e_intsD0, e_borT, e_borT2, e_borK, e_borK2, e_argT, e_argT2, e_argK, e_argK2, e_nbT, e_nbK, e_putT, e_putK, e_gAt1, e_gAt2, e_gAt3, e_gAt4, e_gGetDK, e_gGetDT, e_gIxD, e_gInD, e_gNotInD, e_cGet1, e_cGet2, e_dk1, e_dk2, e_dk3, e_dk4, e_dt1, e_dt2, e_del, atI_zero, e_at1, e_at2, e_at3, e_at4, e_at5, e_at6, e_at7, e_at8, e_at9, e_atm, e_V, e_retV, e_unp, e_app, e_store, e_fzE, oS, rsO_some, Rs.bind_ok, Rs.bind_no, Rs.out_ok, Out.then_nx, Out.then_rt, Out.then_ct, Out.then_bk, fin_rt, fin_nx, List.getElem?_cons_zero, List.getElem?_cons_succ, List.set_cons_succ, List.set_cons_zero, List.length_cons, List.length_nil, Nat.reduceAdd, Nat.reduceLT, Nat.reduceLeDiff, Nat.reduceEqDiff, if_true, if_false, Bool.false_eq_true, Bool.not_true, Bool.not_false, and_self, true_and, and_true, List.map_cons, List.map_nil, Option.map_some, sh_int, sh_bool, sh_none, sh_tup, sh_lst, eqv_int, reduceIte, Option.bind_some, Option.bind_none, kitB_ll, kitB_lt, kitB_tt, kitB_tl, kitB_ii, tyD_list, tyD_int, Bool.true_and, Bool.false_and, Bool.and_true, Bool.and_false, Bool.or_true, Bool.true_or, Bool.false_or, Bool.or_false, Bool.and_self, Bool.or_self, e_cAK, List.append_nil, List.nil_append, List.cons_append, e_andB, e_orB, e_andR, e_orR, tyD_tuple, eqv_bool, eqv_none, tyD_bool, tyD_str, tyD_none, kitB_bb, kitB_nb, kitB_bi, kitB_ib, kitB_nl, kitB_nt, beq_self_eq_true, hi, h]
  | false =>
    rw [c, if_neg Bool.false_ne_true] at h
    generalize lvsD Ls = LL at *
    generalize tupD x = X at *
    simp only [e_nil, e_seq, e_fz, e_bk, e_ct, e_ret, e_retN, e_drop, e_set, e_if, e_for, e_cC, e_c2, e_c1, e_cA, e_aN, e_aC, e_cB, e_asB, e_bNot, e_bAnd, e_bOr, e_vAnd, e_vOr, e_vNot, e_vIf, e_bYes, e_iL, e_iT, e_iLb, e_iR, e_gL1, e_gL2, e_gL3, e_gT, e_gLb1, e_gLb2, e_gLb3, e_gLb4, e_nb1, e_nb2, e_bor1, e_bor2, e_bor3, e_bor4, e_arg1, e_arg2, e_arg3, e_arg4, e_putd, e_puto, e_toD1, e_toD2, e_allD0, e_allD1, e_allD2, e_gTupl, e_gList, e_tgnm, e_tgtp, e_tg0, e_tg1, e_sq1, e_sq2, e_sq3, e_sq4, e_sq5, e_qv2, e_qv3, e_qv4, e_qv5, e_data1, e_data2, e_data3, e_okI, e_okB, e_i2, e_sub, e_mul, e_mod, e_div, e_pow, e_lt, e_le, e_gt, e_ge, e_neg, e_addI, e_addS, e_addT, e_addL1, e_addL2, e_addL3, e_addL4, e_addL5, e_addL6, e_addL7, e_addL8, e_addL9, e_eq, e_ne, e_in, e_notIn, e_inT, e_inT2, e_inL1, e_inL2, e_inL3, e_is, e_isNot, e_isN1, e_isN2, e_isN3, e_isN4, e_isN5, e_isN6, e_isN7, e_ixT, e_ixL, e_ixO, e_ixB, e_ixSc, e_lenT, e_lenL, e_lenO, e_lenB, e_lenSc, e_lenS, e_tupT, e_tupL, e_tupO, e_tupB, e_lisT, e_lisL, e_lisO, e_lisB, e_min2, e_max2, e_any, e_all, e_sum, e_sorted, e_rev, e_sl, e_oN, e_isi, e_lc, e_wipe0, e_wipe1, e_iA, e_iAb, e_gAq1, e_gAq2, e_gAq3, e_gAqb1, e_gAqb2, e_gAqb3, e_gAqb4, e_no, e_cCh, e_cChI, e_aug, e_decT, e_decF, e_cDispS, e_cDT, e_cDK, e_cDisp1, e_storeA, e_stR1, e_stR2, e_stR3, e_sd1, e_keyD1, e_keyD2, e_keyTD, e_intsD, e_intsD0, e_borT, e_borT2, e_borK, e_borK2, e_argT, e_argT2, e_argK, e_argK2, e_nbT, e_nbK, e_putT, e_putK, e_gAt1, e_gAt2, e_gAt3, e_gAt4, e_gGetDK, e_gGetDT, e_gIxD, e_gInD, e_gNotInD, e_cGet1, e_cGet2, e_dk1, e_dk2, e_dk3, e_dk4, e_dt1, e_dt2, e_del, atI_zero, e_at1, e_at2, e_at3, e_at4, e_at5, e_at6, e_at7, e_at8, e_at9, e_atm, e_V, e_retV, e_unp, e_app, e_store, e_fzE, oS, rsO_some, Rs.bind_ok, Rs.bind_no, Rs.out_ok, Out.then_nx, Out.then_rt, Out.then_ct, Out.then_bk, fin_rt, fin_nx, List.getElem?_cons_zero, List.getElem?_cons_succ, List.set_cons_succ, List.set_cons_zero, List.length_cons, List.length_nil, Nat.reduceAdd, Nat.reduceLT, Nat.reduceLeDiff, Nat.reduceEqDiff, if_true, if_false, Bool.false_eq_true, Bool.not_true, Bool.not_false, and_self, true_and, and_true, List.map_cons, List.map_nil, Option.map_some, sh_int, sh_bool, sh_none, sh_tup, sh_lst, eqv_int, reduceIte, Option.bind_some, Option.bind_none, kitB_ll, kitB_lt, kitB_tt, kitB_tl, kitB_ii, tyD_list, tyD_int, Bool.true_and, Bool.false_and, Bool.and_true, Bool.and_false, Bool.or_true, Bool.true_or, Bool.false_or, Bool.or_false, Bool.and_self, Bool.or_self, e_cAK, List.append_nil, List.nil_append, List.cons_append, e_andB, e_orB, e_andR, e_orR, tyD_tuple, eqv_bool, eqv_none, tyD_bool, tyD_str, tyD_none, kitB_bb, kitB_nb, kitB_bi, kitB_ib, kitB_nl, kitB_nt, beq_self_eq_true, hi, h]
theorem lc_in (x : List Int) (env : VEnv) (i j : Nat) (hi : i < env.length) (hj : j ≠ i) (hx : env[j]? = some (some (.d (tupD x)))) (Ls : List (List (List Int))) : lcF (.nm i) bYes (c2 gIn (cV j) (cV i)) env (Ls.map levD) = .ok ((Ls.map fun l => decide (x ∈ l)).map .bool) := by
  rw [lcF_map levD (fun _ => true) (fun l => .bool (decide (x ∈ l))) Ls fun l _ => ⟨env.set i (some (.d (levD l))), by rw [e_tgnm, if_pos hi], rfl, fun _ => ⟨.d (.bool (decide (x ∈ l))), by
    have hm := mem_lev x l
    have h1 : (env.set i (some (.d (levD l))))[j]? = some (some (.d (tupD x))) := by rw [List.getElem?_set_ne (Ne.symm hj)]; exact hx
    have h2 : (env.set i (some (.d (levD l))))[i]? = some (some (.d (levD l))) := by rw [List.getElem?_set_self hi]
    generalize env.set i (some (.d (levD l))) = E at *
    generalize levD l = LL at *
    generalize tupD x = X at *
    simp only [e_c2, e_V, h1, h2, Rs.bind_ok, e_bor1, e_in, hm, e_okB], rfl⟩⟩]
  rw [List.filter_eq_self.mpr (fun _ _ => rfl), List.map_map]
  rfl
theorem any_ins (x : List Int) (Ls : List (List (List Int))) : (Ls.map fun l => decide (x ∈ l)).any id = inLs Ls x := by
  unfold inLs
  rw [List.any_map]
  rfl
def optI : Option Int → PyData
  | none => .none
  | some k => .int k
def paperD (reg : Int) (m : Option Int) (Ls : List (List (List Int))) : PyData := .tuple [.int reg, optI m, lvsD Ls]
/-! ### the certificate that is made -/
def lstL (l : List (List Int)) : PyData := .list (l.map tupD)
theorem tab_cfM {us : List (List Int)} {r : Nat} {h0 : List Int} (hu : us.length ≤ 8) (hc : Cf us.length h0) : ∀ e ∈ tabM us r h0, Cf us.length e.1 := fun e he => by
  have t := (tabM_ok (r := r) hu hc).1
  exact hc.path (t.sound _ _ (tget_of t.nodup he))
theorem planM_few {us : List (List Int)} {r : Nat} {h0 g : List Int} {p : List Int} (hu : us.length ≤ 8) (hc : Cf us.length h0) (e : planM us r h0 g = some p) : p.length < 2 ^ us.length := by
  have l2 : 2 ^ us.length ≤ 2 ^ 8 := Nat.pow_le_pow_right (by omega) hu
  refine tab_short (succ := succM us r) (lt := fun a b : Int => a < b) (fun a => by omega) (fun c => succM_ord us r c) (2 ^ us.length) 300 (fun U m => ?_) (by omega) e
  have h1 := cf_count us.length (U.map (·.1)) m.nodup fun c hc' => by
    obtain ⟨e, he, rfl⟩ := List.mem_map.mp hc'
    exact hc.path (m.sound e he)
  rw [List.length_map] at h1
  exact h1
theorem depthM (us : List (List Int)) (r : Nat) (hu : us.length ≤ 8) : ∃ D, D ≤ 256 ∧ Depth (tabM us r []) D := by
  have t := (tabM_ok (r := r) hu (cf_nil us.length)).1
  have l2 : 2 ^ us.length ≤ 2 ^ 8 := Nat.pow_le_pow_right (by omega) hu
  obtain ⟨D, h1, h2⟩ := depth_ex t (2 ^ us.length) fun e he => planM_few (r := r) (g := e.1) hu (cf_nil us.length) (tget_of t.nodup he)
  exact ⟨D, by omega, h2⟩
def manyO (D : Nat) (o : Option (List Int)) : Nat := match o with
  | none => D
  | some p => p.length
def lenO (o : Option (List Int)) : Option Int := o.map fun p => (p.length : Int)
def madeLs (T : List (List Int × List Int)) (D : Nat) (o : Option (List Int)) : List (List (List Int)) := (List.range (manyO D o)).map (levM T)
theorem cert_ok (us : List (List Int)) (ts : List Int) (r : Nat) (hr8 : r ≤ 800) (hu : us.length ≤ 8) {D : Nat} (hD : Depth (tabM us r []) D) (hD2 : D ≤ 256) : F_certificate [.d (encT us ts), .d (.int (r : Int))] = .ok (.d (paperD r (lenO (planM us r [] ts)) (madeLs (tabM us r []) D (planM us r [] ts)))) := by
  obtain ⟨t, hT⟩ := tabM_ok (r := r) hu (cf_nil us.length)
  have p1 := shortest_ok us ts [] ts r .none (.inl ⟨rfl, rfl⟩) hu hr8 (by simp) (cf_nil _)
  have hwi : within [] r (planM us r [] ts) = planM us r [] ts := if_pos (Nat.zero_le _)
  rw [hwi] at p1
  have p1 : F_shortest_plan [.d (encT us ts), .d (.int (r : Int)), .d (.tuple []), .d .none] = _ := p1
  have p2 := levels_levels_of us ts r hu t hT (tab_cfM hu (cf_nil _)) hD (by omega)
  show (B_certificate [some (.d (encT us ts)), some (.d (.int (r : Int))), none, none]).fin = _
  unfold B_certificate
  cases e : planM us r [] ts with
  | none =>
    rw [e] at p1
    have p1 : F_shortest_plan [.d (encT us ts), .d (.int (r : Int)), .d (.tuple []), .d .none] = .ok (.d .none) := p1
    have hr : paperD r (lenO none) (madeLs (tabM us r []) D none) = .tuple [.int (r : Int), .none, .tuple ((List.range D).map fun j => levD (levM (tabM us r []) j))] := by
      unfold paperD lvsD madeLs
      rw [List.map_map]
      rfl
    rw [hr]
    have hlen : ((List.range D).map fun j => levD (levM (tabM us r []) j)).length = D := by rw [List.length_map, List.length_range]
    generalize (List.range D).map (fun j => levD (levM (tabM us r []) j)) = LL at *
    generalize encT us ts = EE at *
    simp only [e_nil, e_seq, e_fz, e_bk, e_ct, e_ret, e_retN, e_drop, e_set, e_if, e_for, e_cC, e_c2, e_c1, e_cA, e_aN, e_aC, e_cB, e_asB, e_bNot, e_bAnd, e_bOr, e_vAnd, e_vOr, e_vNot, e_vIf, e_bYes, e_iL, e_iT, e_iLb, e_iR, e_gL1, e_gL2, e_gL3, e_gT, e_gLb1, e_gLb2, e_gLb3, e_gLb4, e_nb1, e_nb2, e_bor1, e_bor2, e_bor3, e_bor4, e_arg1, e_arg2, e_arg3, e_arg4, e_putd, e_puto, e_toD1, e_toD2, e_allD0, e_allD1, e_allD2, e_gTupl, e_gList, e_tgnm, e_tgtp, e_tg0, e_tg1, e_sq1, e_sq2, e_sq3, e_sq4, e_sq5, e_qv2, e_qv3, e_qv4, e_qv5, e_data1, e_data2, e_data3, e_okI, e_okB, e_i2, e_sub, e_mul, e_mod, e_div, e_pow, e_lt, e_le, e_gt, e_ge, e_neg, e_addI, e_addS, e_addT, e_addL1, e_addL2, e_addL3, e_addL4, e_addL5, e_addL6, e_addL7, e_addL8, e_addL9, e_eq, e_ne, e_in, e_notIn, e_inT, e_inT2, e_inL1, e_inL2, e_inL3, e_is, e_isNot, e_isN1, e_isN2, e_isN3, e_isN4, e_isN5, e_isN6, e_isN7, e_ixT, e_ixL, e_ixO, e_ixB, e_ixSc, e_lenT, e_lenL, e_lenO, e_lenB, e_lenSc, e_lenS, e_tupT, e_tupL, e_tupO, e_tupB, e_lisT, e_lisL, e_lisO, e_lisB, e_min2, e_max2, e_any, e_all, e_sum, e_sorted, e_rev, e_sl, e_oN, e_isi, e_lc, e_wipe0, e_wipe1, e_iA, e_iAb, e_gAq1, e_gAq2, e_gAq3, e_gAqb1, e_gAqb2, e_gAqb3, e_gAqb4, e_no, e_cCh, e_cChI, e_aug, e_decT, e_decF, e_cDispS, e_cDT, e_cDK, e_cDisp1, e_storeA, e_stR1, e_stR2, e_stR3, e_sd1, e_keyD1, e_keyD2, e_keyTD, e_intsD, e_intsD0, e_borT, e_borT2, e_borK, e_borK2, e_argT, e_argT2, e_argK, e_argK2, e_nbT, e_nbK, e_putT, e_putK, e_gAt1, e_gAt2, e_gAt3, e_gAt4, e_gGetDK, e_gGetDT, e_gIxD, e_gInD, e_gNotInD, e_cGet1, e_cGet2, e_dk1, e_dk2, e_dk3, e_dk4, e_dt1, e_dt2, e_del, atI_zero, e_at1, e_at2, e_at3, e_at4, e_at5, e_at6, e_at7, e_at8, e_at9, e_atm, e_V, e_retV, e_unp, e_app, e_store, e_fzE, oS, rsO_some, Rs.bind_ok, Rs.bind_no, Rs.out_ok, Out.then_nx, Out.then_rt, Out.then_ct, Out.then_bk, fin_rt, fin_nx, List.getElem?_cons_zero, List.getElem?_cons_succ, List.set_cons_succ, List.set_cons_zero, List.length_cons, List.length_nil, Nat.reduceAdd, Nat.reduceLT, Nat.reduceLeDiff, Nat.reduceEqDiff, if_true, if_false, Bool.false_eq_true, Bool.not_true, Bool.not_false, and_self, true_and, and_true, List.map_cons, List.map_nil, Option.map_some, sh_int, sh_bool, sh_none, sh_tup, sh_lst, eqv_int, reduceIte, Option.bind_some, Option.bind_none, kitB_ll, kitB_lt, kitB_tt, kitB_tl, kitB_ii, tyD_list, tyD_int, Bool.true_and, Bool.false_and, Bool.and_true, Bool.and_false, Bool.or_true, Bool.true_or, Bool.false_or, Bool.or_false, Bool.and_self, Bool.or_self, e_cAK, List.append_nil, List.nil_append, List.cons_append, e_andB, e_orB, e_andR, e_orR, tyD_tuple, eqv_bool, eqv_none, tyD_bool, tyD_str, tyD_none, kitB_bb, kitB_nb, kitB_bi, kitB_ib, kitB_nl, kitB_nt, beq_self_eq_true, p1, p2, hlen, if_pos (show D ≤ 1000000 by omega)]
    try rfl
  | some p =>
    rw [e] at p1
    have p1 : F_shortest_plan [.d (encT us ts), .d (.int (r : Int)), .d (.tuple []), .d .none] = .ok (.d (.list (p.map .int))) := p1
    have hd : dst (tabM us r []) ts = some p.length := by unfold dst; rw [show tget (tabM us r []) ts = some p from e]; rfl
    have hlt := hD.all _ _ hd
    have hr : paperD r (lenO (some p)) (madeLs (tabM us r []) D (some p)) = .tuple [.int (r : Int), .int (p.length : Int), .tuple ((List.range p.length).map fun j => levD (levM (tabM us r []) j))] := by
      unfold paperD lvsD madeLs
      rw [List.map_map]
      rfl
    rw [hr]
    have hcut : cutL ((List.range D).map fun j => levD (levM (tabM us r []) j)) none (some (p.length : Int)) = (List.range p.length).map fun j => levD (levM (tabM us r []) j) := by
      rw [cut_take, ← List.map_take, List.take_range, Nat.min_eq_left (by omega)]
    have sl : ∀ xs : List PyData, gSl (.bl xs) none (some (p.length : Int)) = .ok (.ol (cutL xs none (some (p.length : Int)))) := fun _ => rfl
    have hln : gLen [.d (.list (p.map .int))] = .ok (.d (.int (p.length : Int))) := by rw [e_lenL, List.length_map]
    have hlen : ((List.range p.length).map fun j => levD (levM (tabM us r []) j)).length = p.length := by rw [List.length_map, List.length_range]
    generalize (List.range D).map (fun j => levD (levM (tabM us r []) j)) = LL at *
    generalize (List.range p.length).map (fun j => levD (levM (tabM us r []) j)) = LP at *
    generalize p.map PyData.int = PP at *
    generalize encT us ts = EE at *
    simp only [e_nil, e_seq, e_fz, e_bk, e_ct, e_ret, e_retN, e_drop, e_set, e_if, e_for, e_cC, e_c2, e_c1, e_cA, e_aN, e_aC, e_cB, e_asB, e_bNot, e_bAnd, e_bOr, e_vAnd, e_vOr, e_vNot, e_vIf, e_bYes, e_iL, e_iT, e_iLb, e_iR, e_gL1, e_gL2, e_gL3, e_gT, e_gLb1, e_gLb2, e_gLb3, e_gLb4, e_nb1, e_nb2, e_bor1, e_bor2, e_bor3, e_bor4, e_arg1, e_arg2, e_arg3, e_arg4, e_putd, e_puto, e_toD1, e_toD2, e_allD0, e_allD1, e_allD2, e_gTupl, e_gList, e_tgnm, e_tgtp, e_tg0, e_tg1, e_sq1, e_sq2, e_sq3, e_sq4, e_sq5, e_qv2, e_qv3, e_qv4, e_qv5, e_data1, e_data2, e_data3, e_okI, e_okB, e_i2, e_sub, e_mul, e_mod, e_div, e_pow, e_lt, e_le, e_gt, e_ge, e_neg, e_addI, e_addS, e_addT, e_addL1, e_addL2, e_addL3, e_addL4, e_addL5, e_addL6, e_addL7, e_addL8, e_addL9, e_eq, e_ne, e_in, e_notIn, e_inT, e_inT2, e_inL1, e_inL2, e_inL3, e_is, e_isNot, e_isN1, e_isN2, e_isN3, e_isN4, e_isN5, e_isN6, e_isN7, e_ixT, e_ixL, e_ixO, e_ixB, e_ixSc, e_lenT, e_lenL, e_lenO, e_lenB, e_lenSc, e_lenS, e_tupT, e_tupL, e_tupO, e_tupB, e_lisT, e_lisL, e_lisO, e_lisB, e_min2, e_max2, e_any, e_all, e_sum, e_sorted, e_rev, e_sl, e_oN, e_isi, e_lc, e_wipe0, e_wipe1, e_iA, e_iAb, e_gAq1, e_gAq2, e_gAq3, e_gAqb1, e_gAqb2, e_gAqb3, e_gAqb4, e_no, e_cCh, e_cChI, e_aug, e_decT, e_decF, e_cDispS, e_cDT, e_cDK, e_cDisp1, e_storeA, e_stR1, e_stR2, e_stR3, e_sd1, e_keyD1, e_keyD2, e_keyTD, e_intsD, e_intsD0, e_borT, e_borT2, e_borK, e_borK2, e_argT, e_argT2, e_argK, e_argK2, e_nbT, e_nbK, e_putT, e_putK, e_gAt1, e_gAt2, e_gAt3, e_gAt4, e_gGetDK, e_gGetDT, e_gIxD, e_gInD, e_gNotInD, e_cGet1, e_cGet2, e_dk1, e_dk2, e_dk3, e_dk4, e_dt1, e_dt2, e_del, atI_zero, e_at1, e_at2, e_at3, e_at4, e_at5, e_at6, e_at7, e_at8, e_at9, e_atm, e_V, e_retV, e_unp, e_app, e_store, e_fzE, oS, rsO_some, Rs.bind_ok, Rs.bind_no, Rs.out_ok, Out.then_nx, Out.then_rt, Out.then_ct, Out.then_bk, fin_rt, fin_nx, List.getElem?_cons_zero, List.getElem?_cons_succ, List.set_cons_succ, List.set_cons_zero, List.length_cons, List.length_nil, Nat.reduceAdd, Nat.reduceLT, Nat.reduceLeDiff, Nat.reduceEqDiff, if_true, if_false, Bool.false_eq_true, Bool.not_true, Bool.not_false, and_self, true_and, and_true, List.map_cons, List.map_nil, Option.map_some, sh_int, sh_bool, sh_none, sh_tup, sh_lst, eqv_int, reduceIte, Option.bind_some, Option.bind_none, kitB_ll, kitB_lt, kitB_tt, kitB_tl, kitB_ii, tyD_list, tyD_int, Bool.true_and, Bool.false_and, Bool.and_true, Bool.and_false, Bool.or_true, Bool.true_or, Bool.false_or, Bool.or_false, Bool.and_self, Bool.or_self, e_cAK, List.append_nil, List.nil_append, List.cons_append, e_andB, e_orB, e_andR, e_orR, tyD_tuple, eqv_bool, eqv_none, tyD_bool, tyD_str, tyD_none, kitB_bb, kitB_nb, kitB_bi, kitB_ib, kitB_nl, kitB_nt, beq_self_eq_true, p1, p2, sl, hcut, hln, hlen, if_pos (show p.length ≤ 1000000 by omega)]
    try rfl
theorem paper_nice (reg : Int) (m : Option Int) (Ls : List (List (List Int))) : Nice 5 (paperD reg m Ls) := Nice.tup fun e he => by
  simp only [List.mem_cons, List.not_mem_nil, or_false] at he
  rcases he with rfl | rfl | rfl
  · exact Nice.up (Nice.int 0 _) (by decide)
  · cases m with
    | none => exact ⟨rfl, by decide⟩
    | some k => exact Nice.up (Nice.int 0 _) (by decide)
  · exact Nice.tup fun d hd => by
      obtain ⟨l, _, rfl⟩ := List.mem_map.mp hd
      exact lev_nice l
theorem lc_lev (env : VEnv) (i : Nat) (hi : i < env.length) (Ls : List (List (List Int))) (hl : ∀ l ∈ Ls, l.length ≤ 1000) : lcF (.nm i) bYes (cA gTupleC (aC (cV i) aN)) env (Ls.map lstL) = .ok (Ls.map levD) := by
  rw [lcF_map lstL (fun _ => true) levD Ls fun l hl' => ⟨env.set i (some (.d (lstL l))), by rw [e_tgnm, if_pos hi], rfl, fun _ => ⟨.d (levD l), by
    have h2 : (env.set i (some (.d (lstL l))))[i]? = some (some (.d (lstL l))) := by rw [List.getElem?_set_self hi]
    have lz := hl l hl'
    have hz : (l.map tupD).length ≤ 1000000 := by rw [List.length_map]; omega
    generalize env.set i (some (.d (lstL l))) = E at *
    unfold lstL at h2
    unfold levD
    simp only [e_nil, e_seq, e_fz, e_bk, e_ct, e_ret, e_retN, e_drop, e_set, e_if, e_for, e_cC, e_c2, e_c1, e_cA, e_aN, e_aC, e_cB, e_asB, e_bNot, e_bAnd, e_bOr, e_vAnd, e_vOr, e_vNot, e_vIf, e_bYes, e_iL, e_iT, e_iLb, e_iR, e_gL1, e_gL2, e_gL3, e_gT, e_gLb1, e_gLb2, e_gLb3, e_gLb4, e_nb1, e_nb2, e_bor1, e_bor2, e_bor3, e_bor4, e_arg1, e_arg2, e_arg3, e_arg4, e_putd, e_puto, e_toD1, e_toD2, e_allD0, e_allD1, e_allD2, e_gTupl, e_gList, e_tgnm, e_tgtp, e_tg0, e_tg1, e_sq1, e_sq2, e_sq3, e_sq4, e_sq5, e_qv2, e_qv3, e_qv4, e_qv5, e_data1, e_data2, e_data3, e_okI, e_okB, e_i2, e_sub, e_mul, e_mod, e_div, e_pow, e_lt, e_le, e_gt, e_ge, e_neg, e_addI, e_addS, e_addT, e_addL1, e_addL2, e_addL3, e_addL4, e_addL5, e_addL6, e_addL7, e_addL8, e_addL9, e_eq, e_ne, e_in, e_notIn, e_inT, e_inT2, e_inL1, e_inL2, e_inL3, e_is, e_isNot, e_isN1, e_isN2, e_isN3, e_isN4, e_isN5, e_isN6, e_isN7, e_ixT, e_ixL, e_ixO, e_ixB, e_ixSc, e_lenT, e_lenL, e_lenO, e_lenB, e_lenSc, e_lenS, e_tupT, e_tupL, e_tupO, e_tupB, e_lisT, e_lisL, e_lisO, e_lisB, e_min2, e_max2, e_any, e_all, e_sum, e_sorted, e_rev, e_sl, e_oN, e_isi, e_lc, e_wipe0, e_wipe1, e_iA, e_iAb, e_gAq1, e_gAq2, e_gAq3, e_gAqb1, e_gAqb2, e_gAqb3, e_gAqb4, e_no, e_cCh, e_cChI, e_aug, e_decT, e_decF, e_cDispS, e_cDT, e_cDK, e_cDisp1, e_storeA, e_stR1, e_stR2, e_stR3, e_sd1, e_keyD1, e_keyD2, e_keyTD, e_intsD, e_intsD0, e_borT, e_borT2, e_borK, e_borK2, e_argT, e_argT2, e_argK, e_argK2, e_nbT, e_nbK, e_putT, e_putK, e_gAt1, e_gAt2, e_gAt3, e_gAt4, e_gGetDK, e_gGetDT, e_gIxD, e_gInD, e_gNotInD, e_cGet1, e_cGet2, e_dk1, e_dk2, e_dk3, e_dk4, e_dt1, e_dt2, e_del, atI_zero, e_at1, e_at2, e_at3, e_at4, e_at5, e_at6, e_at7, e_at8, e_at9, e_atm, e_V, e_retV, e_unp, e_app, e_store, e_fzE, oS, rsO_some, Rs.bind_ok, Rs.bind_no, Rs.out_ok, Out.then_nx, Out.then_rt, Out.then_ct, Out.then_bk, fin_rt, fin_nx, List.getElem?_cons_zero, List.getElem?_cons_succ, List.set_cons_succ, List.set_cons_zero, List.length_cons, List.length_nil, Nat.reduceAdd, Nat.reduceLT, Nat.reduceLeDiff, Nat.reduceEqDiff, if_true, if_false, Bool.false_eq_true, Bool.not_true, Bool.not_false, and_self, true_and, and_true, List.map_cons, List.map_nil, Option.map_some, sh_int, sh_bool, sh_none, sh_tup, sh_lst, eqv_int, reduceIte, Option.bind_some, Option.bind_none, kitB_ll, kitB_lt, kitB_tt, kitB_tl, kitB_ii, tyD_list, tyD_int, Bool.true_and, Bool.false_and, Bool.and_true, Bool.and_false, Bool.or_true, Bool.true_or, Bool.false_or, Bool.or_false, Bool.and_self, Bool.or_self, e_cAK, List.append_nil, List.nil_append, List.cons_append, e_andB, e_orB, e_andR, e_orR, tyD_tuple, eqv_bool, eqv_none, tyD_bool, tyD_str, tyD_none, kitB_bb, kitB_nb, kitB_bi, kitB_ib, kitB_nl, kitB_nt, beq_self_eq_true, h2, if_pos hz], rfl⟩⟩]
  rw [List.filter_eq_self.mpr (fun _ _ => rfl)]
theorem vals_D (T : List (List Int × List Int)) : valsI (encD T) = some (T.map fun e => (e.2.length : Int)) := by
  induction T with
  | nil => rfl
  | cons e T ih =>
    show (valsI (encD T)).map _ = _
    rw [ih]
    rfl
theorem max_D {T : List (List Int × List Int)} (n : (T.map (·.1)).Nodup) {D : Nat} (hD : Depth T D) (h0 : ∃ x, dst T x = some 0) : maxL (T.map fun e => (e.2.length : Int)) = some ((D : Int) - 1) := by
  obtain ⟨x0, hx0⟩ := h0
  have hpos := hD.all _ _ hx0
  have hne := hD.some (D - 1) (by omega)
  obtain ⟨x, hx⟩ := List.exists_mem_of_ne_nil _ hne
  have hd := (lev_mem n).mp hx
  refine maxL_of ?_ fun j hj => ?_
  · unfold dst at hd
    cases z : tget T x with
    | none => rw [z] at hd; cases hd
    | some p =>
      rw [z] at hd
      injection hd with hd
      refine List.mem_map.mpr ⟨(x, p), tget_mem z, ?_⟩
      show (p.length : Int) = _
      omega
  · obtain ⟨e, he, rfl⟩ := List.mem_map.mp hj
    have := hD.all e.1 e.2.length (by unfold dst; rw [tget_of n (p := e.2) he]; rfl)
    omega
theorem keys_D (T : List (List Int × List Int)) : (encD T).map (fun e => PyData.tuple (e.1.map .int)) = T.map fun e => tupD e.1 := by
  unfold encD
  rw [List.map_map]
  rfl
structure Lvs (us : List (List Int)) (Ls : List (List (List Int))) (a b : Nat) : Prop where
  ne : Ls ≠ []
  len : Ls.length ≤ a
  row : ∀ l ∈ Ls, l.length ≤ b
  cf : ∀ l ∈ Ls, ∀ h ∈ l, Cf us.length h
theorem lst_at {Ls : List (List (List Int))} {k : Nat} (h : k < Ls.length) : gIx (.bl (Ls.map lstL)) (.d (.int (k : Int))) = .ok (.d (lstL (Ls.getD k []))) := by
  rw [e_ixB, atI_cons _ _ (by rw [List.length_map]; exact h), List.getElem?_map, List.getD_eq_getElem?_getD, List.getElem?_eq_getElem h]
  rfl
theorem cut_drop (xs : List PyData) (n : Nat) : cutL xs (some (n : Int)) none = xs.drop n := by
  unfold cutL
  rw [HT.sIx_nat]
  have : HT.sIx xs.length xs.length none = xs.length := rfl
  rw [this]
  by_cases h : n ≤ xs.length
  · rw [Nat.min_eq_left h]
    exact List.take_of_length_le (by rw [List.length_drop]; omega)
  · rw [Nat.min_eq_right (by omega), Nat.sub_self, List.take_zero, List.drop_eq_nil_iff.mpr (by omega)]
theorem sl_lst (l : List (List Int)) (lo hi : Option Int) : gSl (.d (lstL l)) lo hi = .ok (.ol (cutL (l.map tupD) lo hi)) := rfl
theorem sl_bb (xs : List PyData) (lo hi : Option Int) : gSl (.bl xs) lo hi = .ok (.ol (cutL xs lo hi)) := rfl
theorem ixN_nat {n i : Nat} (h : i < n) : ixN n (i : Int) = some i := by
  unfold ixN
  rw [if_pos (by omega), if_pos (by omega)]
  rfl
def selM (d n : Nat) : List Nat := (List.range n).filter fun k => decide (d / 2 ^ k % 2 = 1)
def selI (d n : Nat) : List Int := (selM d n).map fun k : Nat => (k : Int)
theorem sel_cf (d n : Nat) : Cf n (selI d n) := by
  refine ⟨?_, fun x hx => ?_⟩
  · unfold Up selI selM
    rw [List.pairwise_map]
    exact List.Pairwise.filter _ (List.Pairwise.imp (fun h => by omega) List.pairwise_lt_range)
  · obtain ⟨k, hk, rfl⟩ := List.mem_map.mp hx
    have := List.mem_range.mp (List.mem_filter.mp hk).1
    omega
theorem sel_len (d n : Nat) : (selI d n).length ≤ n := by
  unfold selI selM
  rw [List.length_map]
  exact Nat.le_trans (List.length_filter_le _ _) (by simp)
theorem sel_map (d n : Nat) : (selM d n).map natI = (selI d n).map .int := by unfold selI; rw [List.map_map]; rfl
theorem bit_div (d k : Nat) (h : k < 6) : gDiv (.d (.int d)) (.d (.int ((2 ^ k : Nat) : Int))) = .ok (.d (.int ((d / 2 ^ k : Nat) : Int))) := by
  have h1 : 0 < 2 ^ k := Nat.pow_pos (by omega)
  have h2 : 2 ^ k ≤ 2 ^ 6 := Nat.pow_le_pow_right (by omega) (by omega)
  rw [e_div, if_pos (by omega)]
  rfl
theorem sel_ok (d n i : Nat) (hn : n ≤ 6) (env : VEnv) (hi : i < env.length) (t : VEnv → Rs Bool) (ht : ∀ k, k < n → t (env.set i (some (.d (.int (k : Int))))) = .ok (decide (d / 2 ^ k % 2 = 1))) : lcF (.nm i) t (cV i) env ((List.range n).map natI) = .ok ((selI d n).map .int) := by
  rw [lc_nats i (List.range n) (fun k => decide (d / 2 ^ k % 2 = 1)) hi fun k hk => ht k (List.mem_range.mp hk)]
  exact congrArg Rs.ok (sel_map d n)
/-! ### a loop that returns at the first row that tells something -/
theorem loop_some {tg : Tg} {f : VEnv → Out} {α : Type} (emb : α → PyData) (g : α → Option PyData) (R : VEnv → Prop) : ∀ (xs : List α) (env : VEnv), R env →
    (∀ x ∈ xs, ∀ env, R env → ∃ e1, tgE tg (emb x) env = some e1 ∧ (match g x with | some d => f e1 = .rt (.d d) | none => ∃ e2, f e1 = .nx e2 ∧ R e2)) →
    match xs.findSome? g with | some d => loopF tg f (xs.map emb) env = .rt (.d d) | none => ∃ e2, loopF tg f (xs.map emb) env = .nx e2 ∧ R e2
  | [], env, h, _ => ⟨env, rfl, h⟩
  | x :: xs, env, h, hs => by
    obtain ⟨e1, t1, h2⟩ := hs x List.mem_cons_self env h
    rw [List.findSome?_cons, List.map_cons, loopF_cons, t1]
    cases hg : g x with
    | some d =>
      rw [hg] at h2
      simp only at h2 ⊢
      simp only [h2, lp_rt]
    | none =>
      rw [hg] at h2
      obtain ⟨e2, h3, r2⟩ := h2
      have ih := loop_some emb g R xs e2 r2 fun y hy => hs y (List.mem_cons_of_mem _ hy)
      simp only [h3, lp_nx]
      exact ih
/-! ### the flaw of a certificate -/
def cntB (m : Option Int) (n : Nat) : Bool := match m with
  | none => true
  | some k => decide (k = (n : Int))
def lastN (m : Option Int) (n : Nat) : Nat := match m with
  | none => n
  | some _ => n - 1
def strD (s : Str) : PyData := .str s
def tgtM (ts : List Int) (Ls : List (List (List Int))) (k : Nat) : Option PyData := if ts ∈ Ls.getD k [] then some (.tuple [.str "target", .int (k : Int)]) else none
def stpM (us : List (List Int)) (r : Nat) (Ls : List (List (List Int))) (k : Nat) : Option PyData := (Ls.getD k []).findSome? fun h => (succM us r h).findSome? fun e => if inLs (Ls.take (k + 2)) e.2 = true then none else some (.tuple [.str "step", .int (k : Int), tupD h, .int e.1])
def flawP (us : List (List Int)) (r : Nat) (ts : List Int) (m : Option Int) (Ls : List (List (List Int))) : PyData :=
  if [] ∉ Ls.getD 0 [] then .tuple [.str "start"] else if cntB m Ls.length = false then .tuple [.str "count"] else
    match (List.range Ls.length).findSome? (tgtM ts Ls) with
    | some d => d
    | none => match (List.range (lastN m Ls.length)).findSome? (stpM us r Ls) with
      | some d => d
      | none => .none
theorem lvs_at {Ls : List (List (List Int))} {k : Nat} (h : k < Ls.length) : gIx (.d (lvsD Ls)) (.d (.int (k : Int))) = .ok (.d (levD (Ls.getD k []))) := by
  unfold lvsD
  rw [e_ixT, atI_cons _ _ (by rw [List.length_map]; exact h), List.getElem?_map, List.getD_eq_getElem?_getD, List.getElem?_eq_getElem h]
  rfl
section
variable (us : List (List Int)) (ts : List Int) (r : Nat) (hu : us.length ≤ 8) (m : Option Int) (Ls : List (List (List Int))) (hcf : ∀ l ∈ Ls, ∀ h ∈ l, Cf us.length h)
theorem cut_ls (k : Nat) : gSl (.d (lvsD Ls)) none (some ((k : Int) + 2)) = .ok (.d (lvsD (Ls.take (k + 2)))) := by
  unfold lvsD
  rw [sl_t, show (k : Int) + 2 = ((k + 2 : Nat) : Int) by omega, lvs_take]
include hu hcf
theorem fl_in (k : Nat) (h : List Int) (e1 e3 e6 : Option RV) (es : List (Int × List Int)) (env : VEnv) (henv : ∃ e8 e9, env = [some (.d (encT us ts)), e1, some (.d (.int (r : Int))), e3, some (.d (lvsD Ls)), some (.d (.int (k : Int))), e6, some (.d (tupD h)), e8, e9]) :
    match es.findSome? fun e => if inLs (Ls.take (k + 2)) e.2 = true then none else some (PyData.tuple [.str "step", .int (k : Int), tupD h, .int e.1]) with | some d => loopF (.tp [8, 9]) L1_flaw (encM es) env = .rt (.d d) | none => ∃ e2, loopF (.tp [8, 9]) L1_flaw (encM es) env = .nx e2 ∧ ∃ e8 e9, e2 = [some (.d (encT us ts)), e1, some (.d (.int (r : Int))), e3, some (.d (lvsD Ls)), some (.d (.int (k : Int))), e6, some (.d (tupD h)), e8, e9] := by
  refine loop_some (fun e : Int × List Int => PyData.tuple [.int e.1, tupD e.2]) _ _ es env henv ?_
  rintro ⟨s, d⟩ _ _ ⟨e8, e9, rfl⟩
  refine ⟨[some (.d (encT us ts)), e1, some (.d (.int (r : Int))), e3, some (.d (lvsD Ls)), some (.d (.int (k : Int))), e6, some (.d (tupD h)), some (.d (.int s)), some (.d (tupD d))], rfl, ?_⟩
  have hs := stands_ok (Ls.take (k + 2)) d
  have hcut := cut_ls Ls k
  show match (if inLs (Ls.take (k + 2)) d = true then none else some (PyData.tuple [.str "step", .int (k : Int), tupD h, .int s])) with | some d => _ | none => _
  cases c : inLs (Ls.take (k + 2)) d with
  | true =>
    rw [c] at hs
    rw [if_pos rfl]
    refine ⟨_, ?_, some (.d (.int s)), some (.d (tupD d)), rfl⟩
    generalize lvsD (Ls.take (k + 2)) = L2 at *
    generalize lvsD Ls = LL at *
    generalize encT us ts = EE at *
    generalize tupD h = H at *
    generalize tupD d = DD at *
    unfold L1_flaw
    simp only [e_nil, e_seq, e_fz, e_bk, e_ct, e_ret, e_retN, e_drop, e_set, e_if, e_for, e_cC, e_c2, e_c1, e_cA, e_aN, e_aC, e_cB, e_asB, e_bNot, e_bAnd, e_bOr, e_vAnd, e_vOr, e_vNot, e_vIf, e_bYes, e_iL, e_iT, e_iLb, e_iR, e_gL1, e_gL2, e_gL3, e_gT, e_gLb1, e_gLb2, e_gLb3, e_gLb4, e_nb1, e_nb2, e_bor1, e_bor2, e_bor3, e_bor4, e_arg1, e_arg2, e_arg3, e_arg4, e_putd, e_puto, e_toD1, e_toD2, e_allD0, e_allD1, e_allD2, e_gTupl, e_gList, e_tgnm, e_tgtp, e_tg0, e_tg1, e_sq1, e_sq2, e_sq3, e_sq4, e_sq5, e_qv2, e_qv3, e_qv4, e_qv5, e_data1, e_data2, e_data3, e_okI, e_okB, e_i2, e_sub, e_mul, e_mod, e_div, e_pow, e_lt, e_le, e_gt, e_ge, e_neg, e_addI, e_addS, e_addT, e_addL1, e_addL2, e_addL3, e_addL4, e_addL5, e_addL6, e_addL7, e_addL8, e_addL9, e_eq, e_ne, e_in, e_notIn, e_inT, e_inT2, e_inL1, e_inL2, e_inL3, e_is, e_isNot, e_isN1, e_isN2, e_isN3, e_isN4, e_isN5, e_isN6, e_isN7, e_ixT, e_ixL, e_ixO, e_ixB, e_ixSc, e_lenT, e_lenL, e_lenO, e_lenB, e_lenSc, e_lenS, e_tupT, e_tupL, e_tupO, e_tupB, e_lisT, e_lisL, e_lisO, e_lisB, e_min2, e_max2, e_any, e_all, e_sum, e_sorted, e_rev, e_sl, e_oN, e_isi, e_lc, e_wipe0, e_wipe1, e_iA, e_iAb, e_gAq1, e_gAq2, e_gAq3, e_gAqb1, e_gAqb2, e_gAqb3, e_gAqb4, e_no, e_cCh, e_cChI, e_aug, e_decT, e_decF, e_cDispS, e_cDT, e_cDK, e_cDisp1, e_storeA, e_stR1, e_stR2, e_stR3, e_sd1, e_keyD1, e_keyD2, e_keyTD, e_intsD, e_intsD0, e_borT, e_borT2, e_borK, e_borK2, e_argT, e_argT2, e_argK, e_argK2, e_nbT, e_nbK, e_putT, e_putK, e_gAt1, e_gAt2, e_gAt3, e_gAt4, e_gGetDK, e_gGetDT, e_gIxD, e_gInD, e_gNotInD, e_cGet1, e_cGet2, e_dk1, e_dk2, e_dk3, e_dk4, e_dt1, e_dt2, e_del, atI_zero, e_at1, e_at2, e_at3, e_at4, e_at5, e_at6, e_at7, e_at8, e_at9, e_atm, e_V, e_retV, e_unp, e_app, e_store, e_fzE, oS, rsO_some, Rs.bind_ok, Rs.bind_no, Rs.out_ok, Out.then_nx, Out.then_rt, Out.then_ct, Out.then_bk, fin_rt, fin_nx, List.getElem?_cons_zero, List.getElem?_cons_succ, List.set_cons_succ, List.set_cons_zero, List.length_cons, List.length_nil, Nat.reduceAdd, Nat.reduceLT, Nat.reduceLeDiff, Nat.reduceEqDiff, if_true, if_false, Bool.false_eq_true, Bool.not_true, Bool.not_false, and_self, true_and, and_true, List.map_cons, List.map_nil, Option.map_some, sh_int, sh_bool, sh_none, sh_tup, sh_lst, eqv_int, reduceIte, Option.bind_some, Option.bind_none, kitB_ll, kitB_lt, kitB_tt, kitB_tl, kitB_ii, tyD_list, tyD_int, Bool.true_and, Bool.false_and, Bool.and_true, Bool.and_false, Bool.or_true, Bool.true_or, Bool.false_or, Bool.or_false, Bool.and_self, Bool.or_self, e_cAK, List.append_nil, List.nil_append, List.cons_append, e_andB, e_orB, e_andR, e_orR, tyD_tuple, eqv_bool, eqv_none, tyD_bool, tyD_str, tyD_none, kitB_bb, kitB_nb, kitB_bi, kitB_ib, kitB_nl, kitB_nt, beq_self_eq_true, hcut, hs]
  | false =>
    rw [c] at hs
    rw [if_neg Bool.false_ne_true]
    show _ = _
    generalize lvsD (Ls.take (k + 2)) = L2 at *
    generalize lvsD Ls = LL at *
    generalize encT us ts = EE at *
    generalize tupD h = H at *
    generalize tupD d = DD at *
    unfold L1_flaw
    simp only [e_nil, e_seq, e_fz, e_bk, e_ct, e_ret, e_retN, e_drop, e_set, e_if, e_for, e_cC, e_c2, e_c1, e_cA, e_aN, e_aC, e_cB, e_asB, e_bNot, e_bAnd, e_bOr, e_vAnd, e_vOr, e_vNot, e_vIf, e_bYes, e_iL, e_iT, e_iLb, e_iR, e_gL1, e_gL2, e_gL3, e_gT, e_gLb1, e_gLb2, e_gLb3, e_gLb4, e_nb1, e_nb2, e_bor1, e_bor2, e_bor3, e_bor4, e_arg1, e_arg2, e_arg3, e_arg4, e_putd, e_puto, e_toD1, e_toD2, e_allD0, e_allD1, e_allD2, e_gTupl, e_gList, e_tgnm, e_tgtp, e_tg0, e_tg1, e_sq1, e_sq2, e_sq3, e_sq4, e_sq5, e_qv2, e_qv3, e_qv4, e_qv5, e_data1, e_data2, e_data3, e_okI, e_okB, e_i2, e_sub, e_mul, e_mod, e_div, e_pow, e_lt, e_le, e_gt, e_ge, e_neg, e_addI, e_addS, e_addT, e_addL1, e_addL2, e_addL3, e_addL4, e_addL5, e_addL6, e_addL7, e_addL8, e_addL9, e_eq, e_ne, e_in, e_notIn, e_inT, e_inT2, e_inL1, e_inL2, e_inL3, e_is, e_isNot, e_isN1, e_isN2, e_isN3, e_isN4, e_isN5, e_isN6, e_isN7, e_ixT, e_ixL, e_ixO, e_ixB, e_ixSc, e_lenT, e_lenL, e_lenO, e_lenB, e_lenSc, e_lenS, e_tupT, e_tupL, e_tupO, e_tupB, e_lisT, e_lisL, e_lisO, e_lisB, e_min2, e_max2, e_any, e_all, e_sum, e_sorted, e_rev, e_sl, e_oN, e_isi, e_lc, e_wipe0, e_wipe1, e_iA, e_iAb, e_gAq1, e_gAq2, e_gAq3, e_gAqb1, e_gAqb2, e_gAqb3, e_gAqb4, e_no, e_cCh, e_cChI, e_aug, e_decT, e_decF, e_cDispS, e_cDT, e_cDK, e_cDisp1, e_storeA, e_stR1, e_stR2, e_stR3, e_sd1, e_keyD1, e_keyD2, e_keyTD, e_intsD, e_intsD0, e_borT, e_borT2, e_borK, e_borK2, e_argT, e_argT2, e_argK, e_argK2, e_nbT, e_nbK, e_putT, e_putK, e_gAt1, e_gAt2, e_gAt3, e_gAt4, e_gGetDK, e_gGetDT, e_gIxD, e_gInD, e_gNotInD, e_cGet1, e_cGet2, e_dk1, e_dk2, e_dk3, e_dk4, e_dt1, e_dt2, e_del, atI_zero, e_at1, e_at2, e_at3, e_at4, e_at5, e_at6, e_at7, e_at8, e_at9, e_atm, e_V, e_retV, e_unp, e_app, e_store, e_fzE, oS, rsO_some, Rs.bind_ok, Rs.bind_no, Rs.out_ok, Out.then_nx, Out.then_rt, Out.then_ct, Out.then_bk, fin_rt, fin_nx, List.getElem?_cons_zero, List.getElem?_cons_succ, List.set_cons_succ, List.set_cons_zero, List.length_cons, List.length_nil, Nat.reduceAdd, Nat.reduceLT, Nat.reduceLeDiff, Nat.reduceEqDiff, if_true, if_false, Bool.false_eq_true, Bool.not_true, Bool.not_false, and_self, true_and, and_true, List.map_cons, List.map_nil, Option.map_some, sh_int, sh_bool, sh_none, sh_tup, sh_lst, eqv_int, reduceIte, Option.bind_some, Option.bind_none, kitB_ll, kitB_lt, kitB_tt, kitB_tl, kitB_ii, tyD_list, tyD_int, Bool.true_and, Bool.false_and, Bool.and_true, Bool.and_false, Bool.or_true, Bool.true_or, Bool.false_or, Bool.or_false, Bool.and_self, Bool.or_self, e_cAK, List.append_nil, List.nil_append, List.cons_append, e_andB, e_orB, e_andR, e_orR, tyD_tuple, eqv_bool, eqv_none, tyD_bool, tyD_str, tyD_none, kitB_bb, kitB_nb, kitB_bi, kitB_ib, kitB_nl, kitB_nt, beq_self_eq_true, hcut, hs]
theorem fl_mid (k : Nat) (hk : k < Ls.length) (e1 e3 e6 : Option RV) (env : VEnv) (henv : ∃ e7 e8 e9, env = [some (.d (encT us ts)), e1, some (.d (.int (r : Int))), e3, some (.d (lvsD Ls)), some (.d (.int (k : Int))), e6, e7, e8, e9]) :
    match stpM us r Ls k with | some d => loopF (.nm 7) L2_flaw ((Ls.getD k []).map tupD) env = .rt (.d d) | none => ∃ e2, loopF (.nm 7) L2_flaw ((Ls.getD k []).map tupD) env = .nx e2 ∧ ∃ e7 e8 e9, e2 = [some (.d (encT us ts)), e1, some (.d (.int (r : Int))), e3, some (.d (lvsD Ls)), some (.d (.int (k : Int))), e6, e7, e8, e9] := by
  have hc : ∀ h ∈ Ls.getD k [], Cf us.length h := by
    rw [List.getD_eq_getElem?_getD, List.getElem?_eq_getElem hk]
    exact hcf _ (List.getElem_mem hk)
  refine loop_some tupD _ _ (Ls.getD k []) env henv ?_
  rintro h hh _ ⟨e7, e8, e9, rfl⟩
  refine ⟨[some (.d (encT us ts)), e1, some (.d (.int (r : Int))), e3, some (.d (lvsD Ls)), some (.d (.int (k : Int))), e6, some (.d (tupD h)), e8, e9], rfl, ?_⟩
  have lh := cf_len _ (hc h hh)
  have htr := trans_ok us ts h r (by omega) (by omega)
  have hin := fl_in us ts r hu Ls hcf k h e1 e3 e6 (succM us r h) _ ⟨e8, e9, rfl⟩
  show match ((succM us r h).findSome? fun e => if inLs (Ls.take (k + 2)) e.2 = true then none else some (PyData.tuple [.str "step", .int (k : Int), tupD h, .int e.1])) with | some d => _ | none => _
  have hb : L2_flaw [some (.d (encT us ts)), e1, some (.d (.int (r : Int))), e3, some (.d (lvsD Ls)), some (.d (.int (k : Int))), e6, some (.d (tupD h)), e8, e9] = loopF (.tp [8, 9]) L1_flaw (encM (succM us r h)) [some (.d (encT us ts)), e1, some (.d (.int (r : Int))), e3, some (.d (lvsD Ls)), some (.d (.int (k : Int))), e6, some (.d (tupD h)), e8, e9] := by
    clear hin
    generalize encM (succM us r h) = ES at *
    generalize lvsD Ls = LL at *
    generalize encT us ts = EE at *
    generalize tupD h = H at *
    unfold L2_flaw
    simp only [e_nil, e_seq, e_fz, e_bk, e_ct, e_ret, e_retN, e_drop, e_set, e_if, e_for, e_cC, e_c2, e_c1, e_cA, e_aN, e_aC, e_cB, e_asB, e_bNot, e_bAnd, e_bOr, e_vAnd, e_vOr, e_vNot, e_vIf, e_bYes, e_iL, e_iT, e_iLb, e_iR, e_gL1, e_gL2, e_gL3, e_gT, e_gLb1, e_gLb2, e_gLb3, e_gLb4, e_nb1, e_nb2, e_bor1, e_bor2, e_bor3, e_bor4, e_arg1, e_arg2, e_arg3, e_arg4, e_putd, e_puto, e_toD1, e_toD2, e_allD0, e_allD1, e_allD2, e_gTupl, e_gList, e_tgnm, e_tgtp, e_tg0, e_tg1, e_sq1, e_sq2, e_sq3, e_sq4, e_sq5, e_qv2, e_qv3, e_qv4, e_qv5, e_data1, e_data2, e_data3, e_okI, e_okB, e_i2, e_sub, e_mul, e_mod, e_div, e_pow, e_lt, e_le, e_gt, e_ge, e_neg, e_addI, e_addS, e_addT, e_addL1, e_addL2, e_addL3, e_addL4, e_addL5, e_addL6, e_addL7, e_addL8, e_addL9, e_eq, e_ne, e_in, e_notIn, e_inT, e_inT2, e_inL1, e_inL2, e_inL3, e_is, e_isNot, e_isN1, e_isN2, e_isN3, e_isN4, e_isN5, e_isN6, e_isN7, e_ixT, e_ixL, e_ixO, e_ixB, e_ixSc, e_lenT, e_lenL, e_lenO, e_lenB, e_lenSc, e_lenS, e_tupT, e_tupL, e_tupO, e_tupB, e_lisT, e_lisL, e_lisO, e_lisB, e_min2, e_max2, e_any, e_all, e_sum, e_sorted, e_rev, e_sl, e_oN, e_isi, e_lc, e_wipe0, e_wipe1, e_iA, e_iAb, e_gAq1, e_gAq2, e_gAq3, e_gAqb1, e_gAqb2, e_gAqb3, e_gAqb4, e_no, e_cCh, e_cChI, e_aug, e_decT, e_decF, e_cDispS, e_cDT, e_cDK, e_cDisp1, e_storeA, e_stR1, e_stR2, e_stR3, e_sd1, e_keyD1, e_keyD2, e_keyTD, e_intsD, e_intsD0, e_borT, e_borT2, e_borK, e_borK2, e_argT, e_argT2, e_argK, e_argK2, e_nbT, e_nbK, e_putT, e_putK, e_gAt1, e_gAt2, e_gAt3, e_gAt4, e_gGetDK, e_gGetDT, e_gIxD, e_gInD, e_gNotInD, e_cGet1, e_cGet2, e_dk1, e_dk2, e_dk3, e_dk4, e_dt1, e_dt2, e_del, atI_zero, e_at1, e_at2, e_at3, e_at4, e_at5, e_at6, e_at7, e_at8, e_at9, e_atm, e_V, e_retV, e_unp, e_app, e_store, e_fzE, oS, rsO_some, Rs.bind_ok, Rs.bind_no, Rs.out_ok, Out.then_nx, Out.then_rt, Out.then_ct, Out.then_bk, fin_rt, fin_nx, List.getElem?_cons_zero, List.getElem?_cons_succ, List.set_cons_succ, List.set_cons_zero, List.length_cons, List.length_nil, Nat.reduceAdd, Nat.reduceLT, Nat.reduceLeDiff, Nat.reduceEqDiff, if_true, if_false, Bool.false_eq_true, Bool.not_true, Bool.not_false, and_self, true_and, and_true, List.map_cons, List.map_nil, Option.map_some, sh_int, sh_bool, sh_none, sh_tup, sh_lst, eqv_int, reduceIte, Option.bind_some, Option.bind_none, kitB_ll, kitB_lt, kitB_tt, kitB_tl, kitB_ii, tyD_list, tyD_int, Bool.true_and, Bool.false_and, Bool.and_true, Bool.and_false, Bool.or_true, Bool.true_or, Bool.false_or, Bool.or_false, Bool.and_self, Bool.or_self, e_cAK, List.append_nil, List.nil_append, List.cons_append, e_andB, e_orB, e_andR, e_orR, tyD_tuple, eqv_bool, eqv_none, tyD_bool, tyD_str, tyD_none, kitB_bb, kitB_nb, kitB_bi, kitB_ib, kitB_nl, kitB_nt, beq_self_eq_true, e_iA, htr]
  rw [hb]
  cases c : (succM us r h).findSome? fun e => if inLs (Ls.take (k + 2)) e.2 = true then none else some (PyData.tuple [.str "step", .int (k : Int), tupD h, .int e.1]) with
  | some d => rw [c] at hin; exact hin
  | none =>
    rw [c] at hin
    obtain ⟨e2, h1, e8', e9', rfl⟩ := hin
    exact ⟨_, h1, _, _, _, rfl⟩
theorem fl_out (e1 e3 e6 : Option RV) (ks : List Nat) (hks : ∀ k ∈ ks, k < Ls.length) (env : VEnv) (henv : ∃ e5 e7 e8 e9, env = [some (.d (encT us ts)), e1, some (.d (.int (r : Int))), e3, some (.d (lvsD Ls)), e5, e6, e7, e8, e9]) :
    match ks.findSome? (stpM us r Ls) with | some d => loopF (.nm 5) L3_flaw (ks.map natI) env = .rt (.d d) | none => ∃ e2, loopF (.nm 5) L3_flaw (ks.map natI) env = .nx e2 ∧ ∃ e5 e7 e8 e9, e2 = [some (.d (encT us ts)), e1, some (.d (.int (r : Int))), e3, some (.d (lvsD Ls)), e5, e6, e7, e8, e9] := by
  refine loop_some natI _ _ ks env henv ?_
  rintro k hk _ ⟨e5, e7, e8, e9, rfl⟩
  refine ⟨[some (.d (encT us ts)), e1, some (.d (.int (r : Int))), e3, some (.d (lvsD Ls)), some (.d (.int (k : Int))), e6, e7, e8, e9], rfl, ?_⟩
  have hx := lvs_at (hks k hk)
  have hi : gAq (.d (levD (Ls.getD k []))) = .ok ((Ls.getD k []).map tupD) := rfl
  have hin := fl_mid us ts r hu Ls hcf k (hks k hk) e1 e3 e6 _ ⟨e7, e8, e9, rfl⟩
  have hb : L3_flaw [some (.d (encT us ts)), e1, some (.d (.int (r : Int))), e3, some (.d (lvsD Ls)), some (.d (.int (k : Int))), e6, e7, e8, e9] = loopF (.nm 7) L2_flaw ((Ls.getD k []).map tupD) [some (.d (encT us ts)), e1, some (.d (.int (r : Int))), e3, some (.d (lvsD Ls)), some (.d (.int (k : Int))), e6, e7, e8, e9] := by
    clear hin
    generalize levD (Ls.getD k []) = LK at *
    generalize (Ls.getD k []).map tupD = LT at *
    generalize lvsD Ls = LL at *
    generalize encT us ts = EE at *
    unfold L3_flaw
    simp only [e_nil, e_seq, e_fz, e_bk, e_ct, e_ret, e_retN, e_drop, e_set, e_if, e_for, e_cC, e_c2, e_c1, e_cA, e_aN, e_aC, e_cB, e_asB, e_bNot, e_bAnd, e_bOr, e_vAnd, e_vOr, e_vNot, e_vIf, e_bYes, e_iL, e_iT, e_iLb, e_iR, e_gL1, e_gL2, e_gL3, e_gT, e_gLb1, e_gLb2, e_gLb3, e_gLb4, e_nb1, e_nb2, e_bor1, e_bor2, e_bor3, e_bor4, e_arg1, e_arg2, e_arg3, e_arg4, e_putd, e_puto, e_toD1, e_toD2, e_allD0, e_allD1, e_allD2, e_gTupl, e_gList, e_tgnm, e_tgtp, e_tg0, e_tg1, e_sq1, e_sq2, e_sq3, e_sq4, e_sq5, e_qv2, e_qv3, e_qv4, e_qv5, e_data1, e_data2, e_data3, e_okI, e_okB, e_i2, e_sub, e_mul, e_mod, e_div, e_pow, e_lt, e_le, e_gt, e_ge, e_neg, e_addI, e_addS, e_addT, e_addL1, e_addL2, e_addL3, e_addL4, e_addL5, e_addL6, e_addL7, e_addL8, e_addL9, e_eq, e_ne, e_in, e_notIn, e_inT, e_inT2, e_inL1, e_inL2, e_inL3, e_is, e_isNot, e_isN1, e_isN2, e_isN3, e_isN4, e_isN5, e_isN6, e_isN7, e_ixT, e_ixL, e_ixO, e_ixB, e_ixSc, e_lenT, e_lenL, e_lenO, e_lenB, e_lenSc, e_lenS, e_tupT, e_tupL, e_tupO, e_tupB, e_lisT, e_lisL, e_lisO, e_lisB, e_min2, e_max2, e_any, e_all, e_sum, e_sorted, e_rev, e_sl, e_oN, e_isi, e_lc, e_wipe0, e_wipe1, e_iA, e_iAb, e_gAq1, e_gAq2, e_gAq3, e_gAqb1, e_gAqb2, e_gAqb3, e_gAqb4, e_no, e_cCh, e_cChI, e_aug, e_decT, e_decF, e_cDispS, e_cDT, e_cDK, e_cDisp1, e_storeA, e_stR1, e_stR2, e_stR3, e_sd1, e_keyD1, e_keyD2, e_keyTD, e_intsD, e_intsD0, e_borT, e_borT2, e_borK, e_borK2, e_argT, e_argT2, e_argK, e_argK2, e_nbT, e_nbK, e_putT, e_putK, e_gAt1, e_gAt2, e_gAt3, e_gAt4, e_gGetDK, e_gGetDT, e_gIxD, e_gInD, e_gNotInD, e_cGet1, e_cGet2, e_dk1, e_dk2, e_dk3, e_dk4, e_dt1, e_dt2, e_del, atI_zero, e_at1, e_at2, e_at3, e_at4, e_at5, e_at6, e_at7, e_at8, e_at9, e_atm, e_V, e_retV, e_unp, e_app, e_store, e_fzE, oS, rsO_some, Rs.bind_ok, Rs.bind_no, Rs.out_ok, Out.then_nx, Out.then_rt, Out.then_ct, Out.then_bk, fin_rt, fin_nx, List.getElem?_cons_zero, List.getElem?_cons_succ, List.set_cons_succ, List.set_cons_zero, List.length_cons, List.length_nil, Nat.reduceAdd, Nat.reduceLT, Nat.reduceLeDiff, Nat.reduceEqDiff, if_true, if_false, Bool.false_eq_true, Bool.not_true, Bool.not_false, and_self, true_and, and_true, List.map_cons, List.map_nil, Option.map_some, sh_int, sh_bool, sh_none, sh_tup, sh_lst, eqv_int, reduceIte, Option.bind_some, Option.bind_none, kitB_ll, kitB_lt, kitB_tt, kitB_tl, kitB_ii, tyD_list, tyD_int, Bool.true_and, Bool.false_and, Bool.and_true, Bool.and_false, Bool.or_true, Bool.true_or, Bool.false_or, Bool.or_false, Bool.and_self, Bool.or_self, e_cAK, List.append_nil, List.nil_append, List.cons_append, e_andB, e_orB, e_andR, e_orR, tyD_tuple, eqv_bool, eqv_none, tyD_bool, tyD_str, tyD_none, kitB_bb, kitB_nb, kitB_bi, kitB_ib, kitB_nl, kitB_nt, beq_self_eq_true, e_iA, hx, hi]
  rw [hb]
  cases c : stpM us r Ls k with
  | some d => rw [c] at hin; exact hin
  | none =>
    rw [c] at hin
    obtain ⟨e2, h1, e7', e8', e9', rfl⟩ := hin
    exact ⟨_, h1, _, _, _, _, rfl⟩
omit hu hcf in
theorem fl_tgt (e1 e2 e3 e6 e7 e8 e9 : Option RV) (ks : List Nat) (hks : ∀ k ∈ ks, k < Ls.length) (env : VEnv) (henv : ∃ e5, env = [some (.d (encT us ts)), e1, e2, e3, some (.d (lvsD Ls)), e5, e6, e7, e8, e9]) :
    match ks.findSome? (tgtM ts Ls) with | some d => loopF (.nm 5) L0_flaw (ks.map natI) env = .rt (.d d) | none => ∃ e', loopF (.nm 5) L0_flaw (ks.map natI) env = .nx e' ∧ ∃ e5, e' = [some (.d (encT us ts)), e1, e2, e3, some (.d (lvsD Ls)), e5, e6, e7, e8, e9] := by
  refine loop_some natI _ _ ks env henv ?_
  rintro k hk _ ⟨e5, rfl⟩
  refine ⟨[some (.d (encT us ts)), e1, e2, e3, some (.d (lvsD Ls)), some (.d (.int (k : Int))), e6, e7, e8, e9], rfl, ?_⟩
  have hx := lvs_at (hks k hk)
  have h1 : gIx (.d (encT us ts)) (.d (.int 1)) = .ok (.d (tupD ts)) := rfl
  have hm := mem_lev ts (Ls.getD k [])
  unfold tgtM
  by_cases c : ts ∈ Ls.getD k []
  · rw [decide_eq_true c] at hm
    rw [if_pos c]
    show _ = _
    generalize levD (Ls.getD k []) = LK at *
    generalize lvsD Ls = LL at *
    generalize encT us ts = EE at *
    generalize tupD ts = GG at *
    unfold L0_flaw
    simp only [e_nil, e_seq, e_fz, e_bk, e_ct, e_ret, e_retN, e_drop, e_set, e_if, e_for, e_cC, e_c2, e_c1, e_cA, e_aN, e_aC, e_cB, e_asB, e_bNot, e_bAnd, e_bOr, e_vAnd, e_vOr, e_vNot, e_vIf, e_bYes, e_iL, e_iT, e_iLb, e_iR, e_gL1, e_gL2, e_gL3, e_gT, e_gLb1, e_gLb2, e_gLb3, e_gLb4, e_nb1, e_nb2, e_bor1, e_bor2, e_bor3, e_bor4, e_arg1, e_arg2, e_arg3, e_arg4, e_putd, e_puto, e_toD1, e_toD2, e_allD0, e_allD1, e_allD2, e_gTupl, e_gList, e_tgnm, e_tgtp, e_tg0, e_tg1, e_sq1, e_sq2, e_sq3, e_sq4, e_sq5, e_qv2, e_qv3, e_qv4, e_qv5, e_data1, e_data2, e_data3, e_okI, e_okB, e_i2, e_sub, e_mul, e_mod, e_div, e_pow, e_lt, e_le, e_gt, e_ge, e_neg, e_addI, e_addS, e_addT, e_addL1, e_addL2, e_addL3, e_addL4, e_addL5, e_addL6, e_addL7, e_addL8, e_addL9, e_eq, e_ne, e_in, e_notIn, e_inT, e_inT2, e_inL1, e_inL2, e_inL3, e_is, e_isNot, e_isN1, e_isN2, e_isN3, e_isN4, e_isN5, e_isN6, e_isN7, e_ixT, e_ixL, e_ixO, e_ixB, e_ixSc, e_lenT, e_lenL, e_lenO, e_lenB, e_lenSc, e_lenS, e_tupT, e_tupL, e_tupO, e_tupB, e_lisT, e_lisL, e_lisO, e_lisB, e_min2, e_max2, e_any, e_all, e_sum, e_sorted, e_rev, e_sl, e_oN, e_isi, e_lc, e_wipe0, e_wipe1, e_iA, e_iAb, e_gAq1, e_gAq2, e_gAq3, e_gAqb1, e_gAqb2, e_gAqb3, e_gAqb4, e_no, e_cCh, e_cChI, e_aug, e_decT, e_decF, e_cDispS, e_cDT, e_cDK, e_cDisp1, e_storeA, e_stR1, e_stR2, e_stR3, e_sd1, e_keyD1, e_keyD2, e_keyTD, e_intsD, e_intsD0, e_borT, e_borT2, e_borK, e_borK2, e_argT, e_argT2, e_argK, e_argK2, e_nbT, e_nbK, e_putT, e_putK, e_gAt1, e_gAt2, e_gAt3, e_gAt4, e_gGetDK, e_gGetDT, e_gIxD, e_gInD, e_gNotInD, e_cGet1, e_cGet2, e_dk1, e_dk2, e_dk3, e_dk4, e_dt1, e_dt2, e_del, atI_zero, e_at1, e_at2, e_at3, e_at4, e_at5, e_at6, e_at7, e_at8, e_at9, e_atm, e_V, e_retV, e_unp, e_app, e_store, e_fzE, oS, rsO_some, Rs.bind_ok, Rs.bind_no, Rs.out_ok, Out.then_nx, Out.then_rt, Out.then_ct, Out.then_bk, fin_rt, fin_nx, List.getElem?_cons_zero, List.getElem?_cons_succ, List.set_cons_succ, List.set_cons_zero, List.length_cons, List.length_nil, Nat.reduceAdd, Nat.reduceLT, Nat.reduceLeDiff, Nat.reduceEqDiff, if_true, if_false, Bool.false_eq_true, Bool.not_true, Bool.not_false, and_self, true_and, and_true, List.map_cons, List.map_nil, Option.map_some, sh_int, sh_bool, sh_none, sh_tup, sh_lst, eqv_int, reduceIte, Option.bind_some, Option.bind_none, kitB_ll, kitB_lt, kitB_tt, kitB_tl, kitB_ii, tyD_list, tyD_int, Bool.true_and, Bool.false_and, Bool.and_true, Bool.and_false, Bool.or_true, Bool.true_or, Bool.false_or, Bool.or_false, Bool.and_self, Bool.or_self, e_cAK, List.append_nil, List.nil_append, List.cons_append, e_andB, e_orB, e_andR, e_orR, tyD_tuple, eqv_bool, eqv_none, tyD_bool, tyD_str, tyD_none, kitB_bb, kitB_nb, kitB_bi, kitB_ib, kitB_nl, kitB_nt, beq_self_eq_true, hx, h1, hm]
  · rw [decide_eq_false c] at hm
    rw [if_neg c]
    refine ⟨_, ?_, some (.d (.int (k : Int))), rfl⟩
    generalize levD (Ls.getD k []) = LK at *
    generalize lvsD Ls = LL at *
    generalize encT us ts = EE at *
    generalize tupD ts = GG at *
    unfold L0_flaw
    simp only [e_nil, e_seq, e_fz, e_bk, e_ct, e_ret, e_retN, e_drop, e_set, e_if, e_for, e_cC, e_c2, e_c1, e_cA, e_aN, e_aC, e_cB, e_asB, e_bNot, e_bAnd, e_bOr, e_vAnd, e_vOr, e_vNot, e_vIf, e_bYes, e_iL, e_iT, e_iLb, e_iR, e_gL1, e_gL2, e_gL3, e_gT, e_gLb1, e_gLb2, e_gLb3, e_gLb4, e_nb1, e_nb2, e_bor1, e_bor2, e_bor3, e_bor4, e_arg1, e_arg2, e_arg3, e_arg4, e_putd, e_puto, e_toD1, e_toD2, e_allD0, e_allD1, e_allD2, e_gTupl, e_gList, e_tgnm, e_tgtp, e_tg0, e_tg1, e_sq1, e_sq2, e_sq3, e_sq4, e_sq5, e_qv2, e_qv3, e_qv4, e_qv5, e_data1, e_data2, e_data3, e_okI, e_okB, e_i2, e_sub, e_mul, e_mod, e_div, e_pow, e_lt, e_le, e_gt, e_ge, e_neg, e_addI, e_addS, e_addT, e_addL1, e_addL2, e_addL3, e_addL4, e_addL5, e_addL6, e_addL7, e_addL8, e_addL9, e_eq, e_ne, e_in, e_notIn, e_inT, e_inT2, e_inL1, e_inL2, e_inL3, e_is, e_isNot, e_isN1, e_isN2, e_isN3, e_isN4, e_isN5, e_isN6, e_isN7, e_ixT, e_ixL, e_ixO, e_ixB, e_ixSc, e_lenT, e_lenL, e_lenO, e_lenB, e_lenSc, e_lenS, e_tupT, e_tupL, e_tupO, e_tupB, e_lisT, e_lisL, e_lisO, e_lisB, e_min2, e_max2, e_any, e_all, e_sum, e_sorted, e_rev, e_sl, e_oN, e_isi, e_lc, e_wipe0, e_wipe1, e_iA, e_iAb, e_gAq1, e_gAq2, e_gAq3, e_gAqb1, e_gAqb2, e_gAqb3, e_gAqb4, e_no, e_cCh, e_cChI, e_aug, e_decT, e_decF, e_cDispS, e_cDT, e_cDK, e_cDisp1, e_storeA, e_stR1, e_stR2, e_stR3, e_sd1, e_keyD1, e_keyD2, e_keyTD, e_intsD, e_intsD0, e_borT, e_borT2, e_borK, e_borK2, e_argT, e_argT2, e_argK, e_argK2, e_nbT, e_nbK, e_putT, e_putK, e_gAt1, e_gAt2, e_gAt3, e_gAt4, e_gGetDK, e_gGetDT, e_gIxD, e_gInD, e_gNotInD, e_cGet1, e_cGet2, e_dk1, e_dk2, e_dk3, e_dk4, e_dt1, e_dt2, e_del, atI_zero, e_at1, e_at2, e_at3, e_at4, e_at5, e_at6, e_at7, e_at8, e_at9, e_atm, e_V, e_retV, e_unp, e_app, e_store, e_fzE, oS, rsO_some, Rs.bind_ok, Rs.bind_no, Rs.out_ok, Out.then_nx, Out.then_rt, Out.then_ct, Out.then_bk, fin_rt, fin_nx, List.getElem?_cons_zero, List.getElem?_cons_succ, List.set_cons_succ, List.set_cons_zero, List.length_cons, List.length_nil, Nat.reduceAdd, Nat.reduceLT, Nat.reduceLeDiff, Nat.reduceEqDiff, if_true, if_false, Bool.false_eq_true, Bool.not_true, Bool.not_false, and_self, true_and, and_true, List.map_cons, List.map_nil, Option.map_some, sh_int, sh_bool, sh_none, sh_tup, sh_lst, eqv_int, reduceIte, Option.bind_some, Option.bind_none, kitB_ll, kitB_lt, kitB_tt, kitB_tl, kitB_ii, tyD_list, tyD_int, Bool.true_and, Bool.false_and, Bool.and_true, Bool.and_false, Bool.or_true, Bool.true_or, Bool.false_or, Bool.or_false, Bool.and_self, Bool.or_self, e_cAK, List.append_nil, List.nil_append, List.cons_append, e_andB, e_orB, e_andR, e_orR, tyD_tuple, eqv_bool, eqv_none, tyD_bool, tyD_str, tyD_none, kitB_bb, kitB_nb, kitB_bi, kitB_ib, kitB_nl, kitB_nt, beq_self_eq_true, hx, h1, hm]
theorem flaw_ok (hl : Ls.length ≤ 1000) (hne : Ls ≠ []) : F_flaw [.d (encT us ts), .d (paperD r m Ls)] = .ok (.d (flawP us r ts m Ls)) := by
  have lpos : 0 < Ls.length := List.length_pos_iff.mpr hne
  have hx := lvs_at (Ls := Ls) (k := 0) lpos
  have hx : gIx (.d (lvsD Ls)) (.d (.int 0)) = .ok (.d (levD (Ls.getD 0 []))) := hx
  have hmem := mem_lev [] (Ls.getD 0 [])
  have hmem : gInB (.d (.tuple [])) (.d (levD (Ls.getD 0 []))) = _ := hmem
  have hln : gLen [.d (lvsD Ls)] = .ok (.d (.int (Ls.length : Int))) := by unfold lvsD; rw [e_lenT, List.length_map]
  have un : ∀ env, tgE (.tp [2, 3, 4]) (paperD r m Ls) env = tgEs [2, 3, 4] [.int (r : Int), optI m, lvsD Ls] env := fun _ => rfl
  have hr0 := e_R1n (n := Ls.length) (by omega)
  rw [rng_nat] at hr0
  have hr := e_R1n (n := lastN m Ls.length) (by unfold lastN; split <;> omega)
  rw [rng_nat] at hr
  show (B_flaw [some (.d (encT us ts)), some (.d (paperD r m Ls)), none, none, none, none, none, none, none, none]).fin = _
  unfold flawP
  have tg := fun e5 => fl_tgt us ts Ls (some (.d (paperD r m Ls))) (some (.d (.int (r : Int)))) (some (.d (optI m))) none none none none (List.range Ls.length) (fun k hk => List.mem_range.mp hk) _ ⟨e5, rfl⟩
  have st := fun e5 => fl_out us ts r hu Ls hcf (some (.d (paperD r m Ls))) (some (.d (optI m))) (some (.d (.int ((lastN m Ls.length : Nat) : Int)))) (List.range (lastN m Ls.length)) (fun k hk => by
    have := List.mem_range.mp hk
    unfold lastN at this
    split at this <;> omega) _ ⟨e5, none, none, none, rfl⟩
  have cnt : ∀ e5 e6 e7 e8 e9, (bAnd (cB (c2 gIsNot (cV 3) (cC .none))) (cB (c2 gNe (cV 3) (cA gLen (aC (cV 4) aN))))) [some (.d (encT us ts)), some (.d (paperD r m Ls)), some (.d (.int (r : Int))), some (.d (optI m)), some (.d (lvsD Ls)), e5, e6, e7, e8, e9] = .ok (!cntB m Ls.length) := by
    intro e5 e6 e7 e8 e9
    clear tg st
    cases m with
    | none =>
      have hN : isNone (.d (optI none)) = true := rfl
      generalize optI none = MM at *
      generalize lvsD Ls = LL at *
      generalize encT us ts = EE at *
      generalize paperD r none Ls = PP at *
      simp only [e_nil, e_seq, e_fz, e_bk, e_ct, e_ret, e_retN, e_drop, e_set, e_if, e_for, e_cC, e_c2, e_c1, e_cA, e_aN, e_aC, e_cB, e_asB, e_bNot, e_bAnd, e_bOr, e_vAnd, e_vOr, e_vNot, e_vIf, e_bYes, e_iL, e_iT, e_iLb, e_iR, e_gL1, e_gL2, e_gL3, e_gT, e_gLb1, e_gLb2, e_gLb3, e_gLb4, e_nb1, e_nb2, e_bor1, e_bor2, e_bor3, e_bor4, e_arg1, e_arg2, e_arg3, e_arg4, e_putd, e_puto, e_toD1, e_toD2, e_allD0, e_allD1, e_allD2, e_gTupl, e_gList, e_tgnm, e_tgtp, e_tg0, e_tg1, e_sq1, e_sq2, e_sq3, e_sq4, e_sq5, e_qv2, e_qv3, e_qv4, e_qv5, e_data1, e_data2, e_data3, e_okI, e_okB, e_i2, e_sub, e_mul, e_mod, e_div, e_pow, e_lt, e_le, e_gt, e_ge, e_neg, e_addI, e_addS, e_addT, e_addL1, e_addL2, e_addL3, e_addL4, e_addL5, e_addL6, e_addL7, e_addL8, e_addL9, e_eq, e_ne, e_in, e_notIn, e_inT, e_inT2, e_inL1, e_inL2, e_inL3, e_is, e_isNot, e_isN1, e_isN2, e_isN3, e_isN4, e_isN5, e_isN6, e_isN7, e_ixT, e_ixL, e_ixO, e_ixB, e_ixSc, e_lenT, e_lenL, e_lenO, e_lenB, e_lenSc, e_lenS, e_tupT, e_tupL, e_tupO, e_tupB, e_lisT, e_lisL, e_lisO, e_lisB, e_min2, e_max2, e_any, e_all, e_sum, e_sorted, e_rev, e_sl, e_oN, e_isi, e_lc, e_wipe0, e_wipe1, e_iA, e_iAb, e_gAq1, e_gAq2, e_gAq3, e_gAqb1, e_gAqb2, e_gAqb3, e_gAqb4, e_no, e_cCh, e_cChI, e_aug, e_decT, e_decF, e_cDispS, e_cDT, e_cDK, e_cDisp1, e_storeA, e_stR1, e_stR2, e_stR3, e_sd1, e_keyD1, e_keyD2, e_keyTD, e_intsD, e_intsD0, e_borT, e_borT2, e_borK, e_borK2, e_argT, e_argT2, e_argK, e_argK2, e_nbT, e_nbK, e_putT, e_putK, e_gAt1, e_gAt2, e_gAt3, e_gAt4, e_gGetDK, e_gGetDT, e_gIxD, e_gInD, e_gNotInD, e_cGet1, e_cGet2, e_dk1, e_dk2, e_dk3, e_dk4, e_dt1, e_dt2, e_del, atI_zero, e_at1, e_at2, e_at3, e_at4, e_at5, e_at6, e_at7, e_at8, e_at9, e_atm, e_V, e_retV, e_unp, e_app, e_store, e_fzE, oS, rsO_some, Rs.bind_ok, Rs.bind_no, Rs.out_ok, Out.then_nx, Out.then_rt, Out.then_ct, Out.then_bk, fin_rt, fin_nx, List.getElem?_cons_zero, List.getElem?_cons_succ, List.set_cons_succ, List.set_cons_zero, List.length_cons, List.length_nil, Nat.reduceAdd, Nat.reduceLT, Nat.reduceLeDiff, Nat.reduceEqDiff, if_true, if_false, Bool.false_eq_true, Bool.not_true, Bool.not_false, and_self, true_and, and_true, List.map_cons, List.map_nil, Option.map_some, sh_int, sh_bool, sh_none, sh_tup, sh_lst, eqv_int, reduceIte, Option.bind_some, Option.bind_none, kitB_ll, kitB_lt, kitB_tt, kitB_tl, kitB_ii, tyD_list, tyD_int, Bool.true_and, Bool.false_and, Bool.and_true, Bool.and_false, Bool.or_true, Bool.true_or, Bool.false_or, Bool.or_false, Bool.and_self, Bool.or_self, e_cAK, List.append_nil, List.nil_append, List.cons_append, e_andB, e_orB, e_andR, e_orR, tyD_tuple, eqv_bool, eqv_none, tyD_bool, tyD_str, tyD_none, kitB_bb, kitB_nb, kitB_bi, kitB_ib, kitB_nl, kitB_nt, beq_self_eq_true, hN]
      rfl
    | some k =>
      have hO : optI (some k) = .int k := rfl
      have hC : cntB (some k) Ls.length = decide (k = (Ls.length : Int)) := rfl
      rw [hO, hC]
      generalize lvsD Ls = LL at *
      generalize encT us ts = EE at *
      generalize paperD r (some k) Ls = PP at *
      simp only [e_nil, e_seq, e_fz, e_bk, e_ct, e_ret, e_retN, e_drop, e_set, e_if, e_for, e_cC, e_c2, e_c1, e_cA, e_aN, e_aC, e_cB, e_asB, e_bNot, e_bAnd, e_bOr, e_vAnd, e_vOr, e_vNot, e_vIf, e_bYes, e_iL, e_iT, e_iLb, e_iR, e_gL1, e_gL2, e_gL3, e_gT, e_gLb1, e_gLb2, e_gLb3, e_gLb4, e_nb1, e_nb2, e_bor1, e_bor2, e_bor3, e_bor4, e_arg1, e_arg2, e_arg3, e_arg4, e_putd, e_puto, e_toD1, e_toD2, e_allD0, e_allD1, e_allD2, e_gTupl, e_gList, e_tgnm, e_tgtp, e_tg0, e_tg1, e_sq1, e_sq2, e_sq3, e_sq4, e_sq5, e_qv2, e_qv3, e_qv4, e_qv5, e_data1, e_data2, e_data3, e_okI, e_okB, e_i2, e_sub, e_mul, e_mod, e_div, e_pow, e_lt, e_le, e_gt, e_ge, e_neg, e_addI, e_addS, e_addT, e_addL1, e_addL2, e_addL3, e_addL4, e_addL5, e_addL6, e_addL7, e_addL8, e_addL9, e_eq, e_ne, e_in, e_notIn, e_inT, e_inT2, e_inL1, e_inL2, e_inL3, e_is, e_isNot, e_isN1, e_isN2, e_isN3, e_isN4, e_isN5, e_isN6, e_isN7, e_ixT, e_ixL, e_ixO, e_ixB, e_ixSc, e_lenT, e_lenL, e_lenO, e_lenB, e_lenSc, e_lenS, e_tupT, e_tupL, e_tupO, e_tupB, e_lisT, e_lisL, e_lisO, e_lisB, e_min2, e_max2, e_any, e_all, e_sum, e_sorted, e_rev, e_sl, e_oN, e_isi, e_lc, e_wipe0, e_wipe1, e_iA, e_iAb, e_gAq1, e_gAq2, e_gAq3, e_gAqb1, e_gAqb2, e_gAqb3, e_gAqb4, e_no, e_cCh, e_cChI, e_aug, e_decT, e_decF, e_cDispS, e_cDT, e_cDK, e_cDisp1, e_storeA, e_stR1, e_stR2, e_stR3, e_sd1, e_keyD1, e_keyD2, e_keyTD, e_intsD, e_intsD0, e_borT, e_borT2, e_borK, e_borK2, e_argT, e_argT2, e_argK, e_argK2, e_nbT, e_nbK, e_putT, e_putK, e_gAt1, e_gAt2, e_gAt3, e_gAt4, e_gGetDK, e_gGetDT, e_gIxD, e_gInD, e_gNotInD, e_cGet1, e_cGet2, e_dk1, e_dk2, e_dk3, e_dk4, e_dt1, e_dt2, e_del, atI_zero, e_at1, e_at2, e_at3, e_at4, e_at5, e_at6, e_at7, e_at8, e_at9, e_atm, e_V, e_retV, e_unp, e_app, e_store, e_fzE, oS, rsO_some, Rs.bind_ok, Rs.bind_no, Rs.out_ok, Out.then_nx, Out.then_rt, Out.then_ct, Out.then_bk, fin_rt, fin_nx, List.getElem?_cons_zero, List.getElem?_cons_succ, List.set_cons_succ, List.set_cons_zero, List.length_cons, List.length_nil, Nat.reduceAdd, Nat.reduceLT, Nat.reduceLeDiff, Nat.reduceEqDiff, if_true, if_false, Bool.false_eq_true, Bool.not_true, Bool.not_false, and_self, true_and, and_true, List.map_cons, List.map_nil, Option.map_some, sh_int, sh_bool, sh_none, sh_tup, sh_lst, eqv_int, reduceIte, Option.bind_some, Option.bind_none, kitB_ll, kitB_lt, kitB_tt, kitB_tl, kitB_ii, tyD_list, tyD_int, Bool.true_and, Bool.false_and, Bool.and_true, Bool.and_false, Bool.or_true, Bool.true_or, Bool.false_or, Bool.or_false, Bool.and_self, Bool.or_self, e_cAK, List.append_nil, List.nil_append, List.cons_append, e_andB, e_orB, e_andR, e_orR, tyD_tuple, eqv_bool, eqv_none, tyD_bool, tyD_str, tyD_none, kitB_bb, kitB_nb, kitB_bi, kitB_ib, kitB_nl, kitB_nt, beq_self_eq_true, hln]
  have lst : ∀ e5 e7 e8 e9, (vIf (cB (c2 gIs (cV 3) (cC .none))) (cA gLen (aC (cV 4) aN)) (c2 gSub (cA gLen (aC (cV 4) aN)) (cC (.int 1)))) [some (.d (encT us ts)), some (.d (paperD r m Ls)), some (.d (.int (r : Int))), some (.d (optI m)), some (.d (lvsD Ls)), e5, none, e7, e8, e9] = .ok (.d (.int ((lastN m Ls.length : Nat) : Int))) := by
    intro e5 e7 e8 e9
    clear tg st cnt
    cases m with
    | none =>
      have hN : isNone (.d (optI none)) = true := rfl
      have lN : lastN none Ls.length = Ls.length := rfl
      rw [lN]
      generalize optI none = MM at *
      generalize lvsD Ls = LL at *
      generalize encT us ts = EE at *
      generalize paperD r none Ls = PP at *
      simp only [e_nil, e_seq, e_fz, e_bk, e_ct, e_ret, e_retN, e_drop, e_set, e_if, e_for, e_cC, e_c2, e_c1, e_cA, e_aN, e_aC, e_cB, e_asB, e_bNot, e_bAnd, e_bOr, e_vAnd, e_vOr, e_vNot, e_vIf, e_bYes, e_iL, e_iT, e_iLb, e_iR, e_gL1, e_gL2, e_gL3, e_gT, e_gLb1, e_gLb2, e_gLb3, e_gLb4, e_nb1, e_nb2, e_bor1, e_bor2, e_bor3, e_bor4, e_arg1, e_arg2, e_arg3, e_arg4, e_putd, e_puto, e_toD1, e_toD2, e_allD0, e_allD1, e_allD2, e_gTupl, e_gList, e_tgnm, e_tgtp, e_tg0, e_tg1, e_sq1, e_sq2, e_sq3, e_sq4, e_sq5, e_qv2, e_qv3, e_qv4, e_qv5, e_data1, e_data2, e_data3, e_okI, e_okB, e_i2, e_sub, e_mul, e_mod, e_div, e_pow, e_lt, e_le, e_gt, e_ge, e_neg, e_addI, e_addS, e_addT, e_addL1, e_addL2, e_addL3, e_addL4, e_addL5, e_addL6, e_addL7, e_addL8, e_addL9, e_eq, e_ne, e_in, e_notIn, e_inT, e_inT2, e_inL1, e_inL2, e_inL3, e_is, e_isNot, e_isN1, e_isN2, e_isN3, e_isN4, e_isN5, e_isN6, e_isN7, e_ixT, e_ixL, e_ixO, e_ixB, e_ixSc, e_lenT, e_lenL, e_lenO, e_lenB, e_lenSc, e_lenS, e_tupT, e_tupL, e_tupO, e_tupB, e_lisT, e_lisL, e_lisO, e_lisB, e_min2, e_max2, e_any, e_all, e_sum, e_sorted, e_rev, e_sl, e_oN, e_isi, e_lc, e_wipe0, e_wipe1, e_iA, e_iAb, e_gAq1, e_gAq2, e_gAq3, e_gAqb1, e_gAqb2, e_gAqb3, e_gAqb4, e_no, e_cCh, e_cChI, e_aug, e_decT, e_decF, e_cDispS, e_cDT, e_cDK, e_cDisp1, e_storeA, e_stR1, e_stR2, e_stR3, e_sd1, e_keyD1, e_keyD2, e_keyTD, e_intsD, e_intsD0, e_borT, e_borT2, e_borK, e_borK2, e_argT, e_argT2, e_argK, e_argK2, e_nbT, e_nbK, e_putT, e_putK, e_gAt1, e_gAt2, e_gAt3, e_gAt4, e_gGetDK, e_gGetDT, e_gIxD, e_gInD, e_gNotInD, e_cGet1, e_cGet2, e_dk1, e_dk2, e_dk3, e_dk4, e_dt1, e_dt2, e_del, atI_zero, e_at1, e_at2, e_at3, e_at4, e_at5, e_at6, e_at7, e_at8, e_at9, e_atm, e_V, e_retV, e_unp, e_app, e_store, e_fzE, oS, rsO_some, Rs.bind_ok, Rs.bind_no, Rs.out_ok, Out.then_nx, Out.then_rt, Out.then_ct, Out.then_bk, fin_rt, fin_nx, List.getElem?_cons_zero, List.getElem?_cons_succ, List.set_cons_succ, List.set_cons_zero, List.length_cons, List.length_nil, Nat.reduceAdd, Nat.reduceLT, Nat.reduceLeDiff, Nat.reduceEqDiff, if_true, if_false, Bool.false_eq_true, Bool.not_true, Bool.not_false, and_self, true_and, and_true, List.map_cons, List.map_nil, Option.map_some, sh_int, sh_bool, sh_none, sh_tup, sh_lst, eqv_int, reduceIte, Option.bind_some, Option.bind_none, kitB_ll, kitB_lt, kitB_tt, kitB_tl, kitB_ii, tyD_list, tyD_int, Bool.true_and, Bool.false_and, Bool.and_true, Bool.and_false, Bool.or_true, Bool.true_or, Bool.false_or, Bool.or_false, Bool.and_self, Bool.or_self, e_cAK, List.append_nil, List.nil_append, List.cons_append, e_andB, e_orB, e_andR, e_orR, tyD_tuple, eqv_bool, eqv_none, tyD_bool, tyD_str, tyD_none, kitB_bb, kitB_nb, kitB_bi, kitB_ib, kitB_nl, kitB_nt, beq_self_eq_true, hN, hln]
    | some k =>
      have hN : isNone (.d (optI (some k))) = false := rfl
      have lN : ((lastN (some k) Ls.length : Nat) : Int) = (Ls.length : Int) - 1 := by show ((Ls.length - 1 : Nat) : Int) = _; omega
      rw [lN]
      generalize optI (some k) = MM at *
      generalize lvsD Ls = LL at *
      generalize encT us ts = EE at *
      generalize paperD r (some k) Ls = PP at *
      simp only [e_nil, e_seq, e_fz, e_bk, e_ct, e_ret, e_retN, e_drop, e_set, e_if, e_for, e_cC, e_c2, e_c1, e_cA, e_aN, e_aC, e_cB, e_asB, e_bNot, e_bAnd, e_bOr, e_vAnd, e_vOr, e_vNot, e_vIf, e_bYes, e_iL, e_iT, e_iLb, e_iR, e_gL1, e_gL2, e_gL3, e_gT, e_gLb1, e_gLb2, e_gLb3, e_gLb4, e_nb1, e_nb2, e_bor1, e_bor2, e_bor3, e_bor4, e_arg1, e_arg2, e_arg3, e_arg4, e_putd, e_puto, e_toD1, e_toD2, e_allD0, e_allD1, e_allD2, e_gTupl, e_gList, e_tgnm, e_tgtp, e_tg0, e_tg1, e_sq1, e_sq2, e_sq3, e_sq4, e_sq5, e_qv2, e_qv3, e_qv4, e_qv5, e_data1, e_data2, e_data3, e_okI, e_okB, e_i2, e_sub, e_mul, e_mod, e_div, e_pow, e_lt, e_le, e_gt, e_ge, e_neg, e_addI, e_addS, e_addT, e_addL1, e_addL2, e_addL3, e_addL4, e_addL5, e_addL6, e_addL7, e_addL8, e_addL9, e_eq, e_ne, e_in, e_notIn, e_inT, e_inT2, e_inL1, e_inL2, e_inL3, e_is, e_isNot, e_isN1, e_isN2, e_isN3, e_isN4, e_isN5, e_isN6, e_isN7, e_ixT, e_ixL, e_ixO, e_ixB, e_ixSc, e_lenT, e_lenL, e_lenO, e_lenB, e_lenSc, e_lenS, e_tupT, e_tupL, e_tupO, e_tupB, e_lisT, e_lisL, e_lisO, e_lisB, e_min2, e_max2, e_any, e_all, e_sum, e_sorted, e_rev, e_sl, e_oN, e_isi, e_lc, e_wipe0, e_wipe1, e_iA, e_iAb, e_gAq1, e_gAq2, e_gAq3, e_gAqb1, e_gAqb2, e_gAqb3, e_gAqb4, e_no, e_cCh, e_cChI, e_aug, e_decT, e_decF, e_cDispS, e_cDT, e_cDK, e_cDisp1, e_storeA, e_stR1, e_stR2, e_stR3, e_sd1, e_keyD1, e_keyD2, e_keyTD, e_intsD, e_intsD0, e_borT, e_borT2, e_borK, e_borK2, e_argT, e_argT2, e_argK, e_argK2, e_nbT, e_nbK, e_putT, e_putK, e_gAt1, e_gAt2, e_gAt3, e_gAt4, e_gGetDK, e_gGetDT, e_gIxD, e_gInD, e_gNotInD, e_cGet1, e_cGet2, e_dk1, e_dk2, e_dk3, e_dk4, e_dt1, e_dt2, e_del, atI_zero, e_at1, e_at2, e_at3, e_at4, e_at5, e_at6, e_at7, e_at8, e_at9, e_atm, e_V, e_retV, e_unp, e_app, e_store, e_fzE, oS, rsO_some, Rs.bind_ok, Rs.bind_no, Rs.out_ok, Out.then_nx, Out.then_rt, Out.then_ct, Out.then_bk, fin_rt, fin_nx, List.getElem?_cons_zero, List.getElem?_cons_succ, List.set_cons_succ, List.set_cons_zero, List.length_cons, List.length_nil, Nat.reduceAdd, Nat.reduceLT, Nat.reduceLeDiff, Nat.reduceEqDiff, if_true, if_false, Bool.false_eq_true, Bool.not_true, Bool.not_false, and_self, true_and, and_true, List.map_cons, List.map_nil, Option.map_some, sh_int, sh_bool, sh_none, sh_tup, sh_lst, eqv_int, reduceIte, Option.bind_some, Option.bind_none, kitB_ll, kitB_lt, kitB_tt, kitB_tl, kitB_ii, tyD_list, tyD_int, Bool.true_and, Bool.false_and, Bool.and_true, Bool.and_false, Bool.or_true, Bool.true_or, Bool.false_or, Bool.or_false, Bool.and_self, Bool.or_self, e_cAK, List.append_nil, List.nil_append, List.cons_append, e_andB, e_orB, e_andR, e_orR, tyD_tuple, eqv_bool, eqv_none, tyD_bool, tyD_str, tyD_none, kitB_bb, kitB_nb, kitB_bi, kitB_ib, kitB_nl, kitB_nt, beq_self_eq_true, hN, hln]
  unfold B_flaw
  generalize bAnd (cB (c2 gIsNot (cV 3) (cC .none))) (cB (c2 gNe (cV 3) (cA gLen (aC (cV 4) aN)))) = fc at cnt ⊢
  generalize vIf (cB (c2 gIs (cV 3) (cC .none))) (cA gLen (aC (cV 4) aN)) (c2 gSub (cA gLen (aC (cV 4) aN)) (cC (.int 1))) = fl at lst ⊢
  generalize lastN m Ls.length = NN at *
  generalize levD (Ls.getD 0 []) = L0 at *
  generalize lvsD Ls = LL at *
  generalize encT us ts = EE at *
  generalize optI m = MM at *
  generalize paperD r m Ls = PP at *
  by_cases c1 : [] ∈ Ls.getD 0 []
  · rw [decide_eq_true c1] at hmem
    rw [if_neg (fun z => z c1)]
    cases c2' : cntB m Ls.length with
    | false =>
      rw [c2'] at cnt
      rw [if_pos rfl]
      simp only [e_nil, e_seq, e_fz, e_bk, e_ct, e_ret, e_retN, e_drop, e_set, e_if, e_for, e_cC, e_c2, e_c1, e_cA, e_aN, e_aC, e_cB, e_asB, e_bNot, e_bAnd, e_bOr, e_vAnd, e_vOr, e_vNot, e_vIf, e_bYes, e_iL, e_iT, e_iLb, e_iR, e_gL1, e_gL2, e_gL3, e_gT, e_gLb1, e_gLb2, e_gLb3, e_gLb4, e_nb1, e_nb2, e_bor1, e_bor2, e_bor3, e_bor4, e_arg1, e_arg2, e_arg3, e_arg4, e_putd, e_puto, e_toD1, e_toD2, e_allD0, e_allD1, e_allD2, e_gTupl, e_gList, e_tgnm, e_tgtp, e_tg0, e_tg1, e_sq1, e_sq2, e_sq3, e_sq4, e_sq5, e_qv2, e_qv3, e_qv4, e_qv5, e_data1, e_data2, e_data3, e_okI, e_okB, e_i2, e_sub, e_mul, e_mod, e_div, e_pow, e_lt, e_le, e_gt, e_ge, e_neg, e_addI, e_addS, e_addT, e_addL1, e_addL2, e_addL3, e_addL4, e_addL5, e_addL6, e_addL7, e_addL8, e_addL9, e_eq, e_ne, e_in, e_notIn, e_inT, e_inT2, e_inL1, e_inL2, e_inL3, e_is, e_isNot, e_isN1, e_isN2, e_isN3, e_isN4, e_isN5, e_isN6, e_isN7, e_ixT, e_ixL, e_ixO, e_ixB, e_ixSc, e_lenT, e_lenL, e_lenO, e_lenB, e_lenSc, e_lenS, e_tupT, e_tupL, e_tupO, e_tupB, e_lisT, e_lisL, e_lisO, e_lisB, e_min2, e_max2, e_any, e_all, e_sum, e_sorted, e_rev, e_sl, e_oN, e_isi, e_lc, e_wipe0, e_wipe1, e_iA, e_iAb, e_gAq1, e_gAq2, e_gAq3, e_gAqb1, e_gAqb2, e_gAqb3, e_gAqb4, e_no, e_cCh, e_cChI, e_aug, e_decT, e_decF, e_cDispS, e_cDT, e_cDK, e_cDisp1, e_storeA, e_stR1, e_stR2, e_stR3, e_sd1, e_keyD1, e_keyD2, e_keyTD, e_intsD, e_intsD0, e_borT, e_borT2, e_borK, e_borK2, e_argT, e_argT2, e_argK, e_argK2, e_nbT, e_nbK, e_putT, e_putK, e_gAt1, e_gAt2, e_gAt3, e_gAt4, e_gGetDK, e_gGetDT, e_gIxD, e_gInD, e_gNotInD, e_cGet1, e_cGet2, e_dk1, e_dk2, e_dk3, e_dk4, e_dt1, e_dt2, e_del, atI_zero, e_at1, e_at2, e_at3, e_at4, e_at5, e_at6, e_at7, e_at8, e_at9, e_atm, e_V, e_retV, e_unp, e_app, e_store, e_fzE, oS, rsO_some, Rs.bind_ok, Rs.bind_no, Rs.out_ok, Out.then_nx, Out.then_rt, Out.then_ct, Out.then_bk, fin_rt, fin_nx, List.getElem?_cons_zero, List.getElem?_cons_succ, List.set_cons_succ, List.set_cons_zero, List.length_cons, List.length_nil, Nat.reduceAdd, Nat.reduceLT, Nat.reduceLeDiff, Nat.reduceEqDiff, if_true, if_false, Bool.false_eq_true, Bool.not_true, Bool.not_false, and_self, true_and, and_true, List.map_cons, List.map_nil, Option.map_some, sh_int, sh_bool, sh_none, sh_tup, sh_lst, eqv_int, reduceIte, Option.bind_some, Option.bind_none, kitB_ll, kitB_lt, kitB_tt, kitB_tl, kitB_ii, tyD_list, tyD_int, Bool.true_and, Bool.false_and, Bool.and_true, Bool.and_false, Bool.or_true, Bool.true_or, Bool.false_or, Bool.or_false, Bool.and_self, Bool.or_self, e_cAK, List.append_nil, List.nil_append, List.cons_append, e_andB, e_orB, e_andR, e_orR, tyD_tuple, eqv_bool, eqv_none, tyD_bool, tyD_str, tyD_none, kitB_bb, kitB_nb, kitB_bi, kitB_ib, kitB_nl, kitB_nt, beq_self_eq_true, un, hx, hmem, cnt]
      try rfl
    | true =>
      rw [c2'] at cnt
      rw [if_neg (by simp)]
      cases c3 : (List.range Ls.length).findSome? (tgtM ts Ls) with
      | some d =>
        have tg := tg none
        rw [c3] at tg
        have tg : loopF (.nm 5) L0_flaw ((List.range Ls.length).map natI) _ = .rt (.d d) := tg
        simp only [e_nil, e_seq, e_fz, e_bk, e_ct, e_ret, e_retN, e_drop, e_set, e_if, e_for, e_cC, e_c2, e_c1, e_cA, e_aN, e_aC, e_cB, e_asB, e_bNot, e_bAnd, e_bOr, e_vAnd, e_vOr, e_vNot, e_vIf, e_bYes, e_iL, e_iT, e_iLb, e_iR, e_gL1, e_gL2, e_gL3, e_gT, e_gLb1, e_gLb2, e_gLb3, e_gLb4, e_nb1, e_nb2, e_bor1, e_bor2, e_bor3, e_bor4, e_arg1, e_arg2, e_arg3, e_arg4, e_putd, e_puto, e_toD1, e_toD2, e_allD0, e_allD1, e_allD2, e_gTupl, e_gList, e_tgnm, e_tgtp, e_tg0, e_tg1, e_sq1, e_sq2, e_sq3, e_sq4, e_sq5, e_qv2, e_qv3, e_qv4, e_qv5, e_data1, e_data2, e_data3, e_okI, e_okB, e_i2, e_sub, e_mul, e_mod, e_div, e_pow, e_lt, e_le, e_gt, e_ge, e_neg, e_addI, e_addS, e_addT, e_addL1, e_addL2, e_addL3, e_addL4, e_addL5, e_addL6, e_addL7, e_addL8, e_addL9, e_eq, e_ne, e_in, e_notIn, e_inT, e_inT2, e_inL1, e_inL2, e_inL3, e_is, e_isNot, e_isN1, e_isN2, e_isN3, e_isN4, e_isN5, e_isN6, e_isN7, e_ixT, e_ixL, e_ixO, e_ixB, e_ixSc, e_lenT, e_lenL, e_lenO, e_lenB, e_lenSc, e_lenS, e_tupT, e_tupL, e_tupO, e_tupB, e_lisT, e_lisL, e_lisO, e_lisB, e_min2, e_max2, e_any, e_all, e_sum, e_sorted, e_rev, e_sl, e_oN, e_isi, e_lc, e_wipe0, e_wipe1, e_iA, e_iAb, e_gAq1, e_gAq2, e_gAq3, e_gAqb1, e_gAqb2, e_gAqb3, e_gAqb4, e_no, e_cCh, e_cChI, e_aug, e_decT, e_decF, e_cDispS, e_cDT, e_cDK, e_cDisp1, e_storeA, e_stR1, e_stR2, e_stR3, e_sd1, e_keyD1, e_keyD2, e_keyTD, e_intsD, e_intsD0, e_borT, e_borT2, e_borK, e_borK2, e_argT, e_argT2, e_argK, e_argK2, e_nbT, e_nbK, e_putT, e_putK, e_gAt1, e_gAt2, e_gAt3, e_gAt4, e_gGetDK, e_gGetDT, e_gIxD, e_gInD, e_gNotInD, e_cGet1, e_cGet2, e_dk1, e_dk2, e_dk3, e_dk4, e_dt1, e_dt2, e_del, atI_zero, e_at1, e_at2, e_at3, e_at4, e_at5, e_at6, e_at7, e_at8, e_at9, e_atm, e_V, e_retV, e_unp, e_app, e_store, e_fzE, oS, rsO_some, Rs.bind_ok, Rs.bind_no, Rs.out_ok, Out.then_nx, Out.then_rt, Out.then_ct, Out.then_bk, fin_rt, fin_nx, List.getElem?_cons_zero, List.getElem?_cons_succ, List.set_cons_succ, List.set_cons_zero, List.length_cons, List.length_nil, Nat.reduceAdd, Nat.reduceLT, Nat.reduceLeDiff, Nat.reduceEqDiff, if_true, if_false, Bool.false_eq_true, Bool.not_true, Bool.not_false, and_self, true_and, and_true, List.map_cons, List.map_nil, Option.map_some, sh_int, sh_bool, sh_none, sh_tup, sh_lst, eqv_int, reduceIte, Option.bind_some, Option.bind_none, kitB_ll, kitB_lt, kitB_tt, kitB_tl, kitB_ii, tyD_list, tyD_int, Bool.true_and, Bool.false_and, Bool.and_true, Bool.and_false, Bool.or_true, Bool.true_or, Bool.false_or, Bool.or_false, Bool.and_self, Bool.or_self, e_cAK, List.append_nil, List.nil_append, List.cons_append, e_andB, e_orB, e_andR, e_orR, tyD_tuple, eqv_bool, eqv_none, tyD_bool, tyD_str, tyD_none, kitB_bb, kitB_nb, kitB_bi, kitB_ib, kitB_nl, kitB_nt, beq_self_eq_true, un, hx, hmem, cnt, hln, hr0, tg]
        try rfl
      | none =>
        have tg := tg none
        rw [c3] at tg
        obtain ⟨_, tg, e5, rfl⟩ := tg
        have st := st e5
        cases c4 : (List.range NN).findSome? (stpM us r Ls) with
        | some d =>
          rw [c4] at st
          have st : loopF (.nm 5) L3_flaw ((List.range NN).map natI) _ = .rt (.d d) := st
          simp only [e_nil, e_seq, e_fz, e_bk, e_ct, e_ret, e_retN, e_drop, e_set, e_if, e_for, e_cC, e_c2, e_c1, e_cA, e_aN, e_aC, e_cB, e_asB, e_bNot, e_bAnd, e_bOr, e_vAnd, e_vOr, e_vNot, e_vIf, e_bYes, e_iL, e_iT, e_iLb, e_iR, e_gL1, e_gL2, e_gL3, e_gT, e_gLb1, e_gLb2, e_gLb3, e_gLb4, e_nb1, e_nb2, e_bor1, e_bor2, e_bor3, e_bor4, e_arg1, e_arg2, e_arg3, e_arg4, e_putd, e_puto, e_toD1, e_toD2, e_allD0, e_allD1, e_allD2, e_gTupl, e_gList, e_tgnm, e_tgtp, e_tg0, e_tg1, e_sq1, e_sq2, e_sq3, e_sq4, e_sq5, e_qv2, e_qv3, e_qv4, e_qv5, e_data1, e_data2, e_data3, e_okI, e_okB, e_i2, e_sub, e_mul, e_mod, e_div, e_pow, e_lt, e_le, e_gt, e_ge, e_neg, e_addI, e_addS, e_addT, e_addL1, e_addL2, e_addL3, e_addL4, e_addL5, e_addL6, e_addL7, e_addL8, e_addL9, e_eq, e_ne, e_in, e_notIn, e_inT, e_inT2, e_inL1, e_inL2, e_inL3, e_is, e_isNot, e_isN1, e_isN2, e_isN3, e_isN4, e_isN5, e_isN6, e_isN7, e_ixT, e_ixL, e_ixO, e_ixB, e_ixSc, e_lenT, e_lenL, e_lenO, e_lenB, e_lenSc, e_lenS, e_tupT, e_tupL, e_tupO, e_tupB, e_lisT, e_lisL, e_lisO, e_lisB, e_min2, e_max2, e_any, e_all, e_sum, e_sorted, e_rev, e_sl, e_oN, e_isi, e_lc, e_wipe0, e_wipe1, e_iA, e_iAb, e_gAq1, e_gAq2, e_gAq3, e_gAqb1, e_gAqb2, e_gAqb3, e_gAqb4, e_no, e_cCh, e_cChI, e_aug, e_decT, e_decF, e_cDispS, e_cDT, e_cDK, e_cDisp1, e_storeA, e_stR1, e_stR2, e_stR3, e_sd1, e_keyD1, e_keyD2, e_keyTD, e_intsD, e_intsD0, e_borT, e_borT2, e_borK, e_borK2, e_argT, e_argT2, e_argK, e_argK2, e_nbT, e_nbK, e_putT, e_putK, e_gAt1, e_gAt2, e_gAt3, e_gAt4, e_gGetDK, e_gGetDT, e_gIxD, e_gInD, e_gNotInD, e_cGet1, e_cGet2, e_dk1, e_dk2, e_dk3, e_dk4, e_dt1, e_dt2, e_del, atI_zero, e_at1, e_at2, e_at3, e_at4, e_at5, e_at6, e_at7, e_at8, e_at9, e_atm, e_V, e_retV, e_unp, e_app, e_store, e_fzE, oS, rsO_some, Rs.bind_ok, Rs.bind_no, Rs.out_ok, Out.then_nx, Out.then_rt, Out.then_ct, Out.then_bk, fin_rt, fin_nx, List.getElem?_cons_zero, List.getElem?_cons_succ, List.set_cons_succ, List.set_cons_zero, List.length_cons, List.length_nil, Nat.reduceAdd, Nat.reduceLT, Nat.reduceLeDiff, Nat.reduceEqDiff, if_true, if_false, Bool.false_eq_true, Bool.not_true, Bool.not_false, and_self, true_and, and_true, List.map_cons, List.map_nil, Option.map_some, sh_int, sh_bool, sh_none, sh_tup, sh_lst, eqv_int, reduceIte, Option.bind_some, Option.bind_none, kitB_ll, kitB_lt, kitB_tt, kitB_tl, kitB_ii, tyD_list, tyD_int, Bool.true_and, Bool.false_and, Bool.and_true, Bool.and_false, Bool.or_true, Bool.true_or, Bool.false_or, Bool.or_false, Bool.and_self, Bool.or_self, e_cAK, List.append_nil, List.nil_append, List.cons_append, e_andB, e_orB, e_andR, e_orR, tyD_tuple, eqv_bool, eqv_none, tyD_bool, tyD_str, tyD_none, kitB_bb, kitB_nb, kitB_bi, kitB_ib, kitB_nl, kitB_nt, beq_self_eq_true, un, hx, hmem, cnt, hln, hr0, tg, lst, hr, st]
          try rfl
        | none =>
          rw [c4] at st
          obtain ⟨_, st, e5', e7, e8, e9, rfl⟩ := st
          simp only [e_nil, e_seq, e_fz, e_bk, e_ct, e_ret, e_retN, e_drop, e_set, e_if, e_for, e_cC, e_c2, e_c1, e_cA, e_aN, e_aC, e_cB, e_asB, e_bNot, e_bAnd, e_bOr, e_vAnd, e_vOr, e_vNot, e_vIf, e_bYes, e_iL, e_iT, e_iLb, e_iR, e_gL1, e_gL2, e_gL3, e_gT, e_gLb1, e_gLb2, e_gLb3, e_gLb4, e_nb1, e_nb2, e_bor1, e_bor2, e_bor3, e_bor4, e_arg1, e_arg2, e_arg3, e_arg4, e_putd, e_puto, e_toD1, e_toD2, e_allD0, e_allD1, e_allD2, e_gTupl, e_gList, e_tgnm, e_tgtp, e_tg0, e_tg1, e_sq1, e_sq2, e_sq3, e_sq4, e_sq5, e_qv2, e_qv3, e_qv4, e_qv5, e_data1, e_data2, e_data3, e_okI, e_okB, e_i2, e_sub, e_mul, e_mod, e_div, e_pow, e_lt, e_le, e_gt, e_ge, e_neg, e_addI, e_addS, e_addT, e_addL1, e_addL2, e_addL3, e_addL4, e_addL5, e_addL6, e_addL7, e_addL8, e_addL9, e_eq, e_ne, e_in, e_notIn, e_inT, e_inT2, e_inL1, e_inL2, e_inL3, e_is, e_isNot, e_isN1, e_isN2, e_isN3, e_isN4, e_isN5, e_isN6, e_isN7, e_ixT, e_ixL, e_ixO, e_ixB, e_ixSc, e_lenT, e_lenL, e_lenO, e_lenB, e_lenSc, e_lenS, e_tupT, e_tupL, e_tupO, e_tupB, e_lisT, e_lisL, e_lisO, e_lisB, e_min2, e_max2, e_any, e_all, e_sum, e_sorted, e_rev, e_sl, e_oN, e_isi, e_lc, e_wipe0, e_wipe1, e_iA, e_iAb, e_gAq1, e_gAq2, e_gAq3, e_gAqb1, e_gAqb2, e_gAqb3, e_gAqb4, e_no, e_cCh, e_cChI, e_aug, e_decT, e_decF, e_cDispS, e_cDT, e_cDK, e_cDisp1, e_storeA, e_stR1, e_stR2, e_stR3, e_sd1, e_keyD1, e_keyD2, e_keyTD, e_intsD, e_intsD0, e_borT, e_borT2, e_borK, e_borK2, e_argT, e_argT2, e_argK, e_argK2, e_nbT, e_nbK, e_putT, e_putK, e_gAt1, e_gAt2, e_gAt3, e_gAt4, e_gGetDK, e_gGetDT, e_gIxD, e_gInD, e_gNotInD, e_cGet1, e_cGet2, e_dk1, e_dk2, e_dk3, e_dk4, e_dt1, e_dt2, e_del, atI_zero, e_at1, e_at2, e_at3, e_at4, e_at5, e_at6, e_at7, e_at8, e_at9, e_atm, e_V, e_retV, e_unp, e_app, e_store, e_fzE, oS, rsO_some, Rs.bind_ok, Rs.bind_no, Rs.out_ok, Out.then_nx, Out.then_rt, Out.then_ct, Out.then_bk, fin_rt, fin_nx, List.getElem?_cons_zero, List.getElem?_cons_succ, List.set_cons_succ, List.set_cons_zero, List.length_cons, List.length_nil, Nat.reduceAdd, Nat.reduceLT, Nat.reduceLeDiff, Nat.reduceEqDiff, if_true, if_false, Bool.false_eq_true, Bool.not_true, Bool.not_false, and_self, true_and, and_true, List.map_cons, List.map_nil, Option.map_some, sh_int, sh_bool, sh_none, sh_tup, sh_lst, eqv_int, reduceIte, Option.bind_some, Option.bind_none, kitB_ll, kitB_lt, kitB_tt, kitB_tl, kitB_ii, tyD_list, tyD_int, Bool.true_and, Bool.false_and, Bool.and_true, Bool.and_false, Bool.or_true, Bool.true_or, Bool.false_or, Bool.or_false, Bool.and_self, Bool.or_self, e_cAK, List.append_nil, List.nil_append, List.cons_append, e_andB, e_orB, e_andR, e_orR, tyD_tuple, eqv_bool, eqv_none, tyD_bool, tyD_str, tyD_none, kitB_bb, kitB_nb, kitB_bi, kitB_ib, kitB_nl, kitB_nt, beq_self_eq_true, un, hx, hmem, cnt, hln, hr0, tg, lst, hr, st]
          try rfl
  · rw [decide_eq_false c1] at hmem
    rw [if_pos c1]
    simp only [e_nil, e_seq, e_fz, e_bk, e_ct, e_ret, e_retN, e_drop, e_set, e_if, e_for, e_cC, e_c2, e_c1, e_cA, e_aN, e_aC, e_cB, e_asB, e_bNot, e_bAnd, e_bOr, e_vAnd, e_vOr, e_vNot, e_vIf, e_bYes, e_iL, e_iT, e_iLb, e_iR, e_gL1, e_gL2, e_gL3, e_gT, e_gLb1, e_gLb2, e_gLb3, e_gLb4, e_nb1, e_nb2, e_bor1, e_bor2, e_bor3, e_bor4, e_arg1, e_arg2, e_arg3, e_arg4, e_putd, e_puto, e_toD1, e_toD2, e_allD0, e_allD1, e_allD2, e_gTupl, e_gList, e_tgnm, e_tgtp, e_tg0, e_tg1, e_sq1, e_sq2, e_sq3, e_sq4, e_sq5, e_qv2, e_qv3, e_qv4, e_qv5, e_data1, e_data2, e_data3, e_okI, e_okB, e_i2, e_sub, e_mul, e_mod, e_div, e_pow, e_lt, e_le, e_gt, e_ge, e_neg, e_addI, e_addS, e_addT, e_addL1, e_addL2, e_addL3, e_addL4, e_addL5, e_addL6, e_addL7, e_addL8, e_addL9, e_eq, e_ne, e_in, e_notIn, e_inT, e_inT2, e_inL1, e_inL2, e_inL3, e_is, e_isNot, e_isN1, e_isN2, e_isN3, e_isN4, e_isN5, e_isN6, e_isN7, e_ixT, e_ixL, e_ixO, e_ixB, e_ixSc, e_lenT, e_lenL, e_lenO, e_lenB, e_lenSc, e_lenS, e_tupT, e_tupL, e_tupO, e_tupB, e_lisT, e_lisL, e_lisO, e_lisB, e_min2, e_max2, e_any, e_all, e_sum, e_sorted, e_rev, e_sl, e_oN, e_isi, e_lc, e_wipe0, e_wipe1, e_iA, e_iAb, e_gAq1, e_gAq2, e_gAq3, e_gAqb1, e_gAqb2, e_gAqb3, e_gAqb4, e_no, e_cCh, e_cChI, e_aug, e_decT, e_decF, e_cDispS, e_cDT, e_cDK, e_cDisp1, e_storeA, e_stR1, e_stR2, e_stR3, e_sd1, e_keyD1, e_keyD2, e_keyTD, e_intsD, e_intsD0, e_borT, e_borT2, e_borK, e_borK2, e_argT, e_argT2, e_argK, e_argK2, e_nbT, e_nbK, e_putT, e_putK, e_gAt1, e_gAt2, e_gAt3, e_gAt4, e_gGetDK, e_gGetDT, e_gIxD, e_gInD, e_gNotInD, e_cGet1, e_cGet2, e_dk1, e_dk2, e_dk3, e_dk4, e_dt1, e_dt2, e_del, atI_zero, e_at1, e_at2, e_at3, e_at4, e_at5, e_at6, e_at7, e_at8, e_at9, e_atm, e_V, e_retV, e_unp, e_app, e_store, e_fzE, oS, rsO_some, Rs.bind_ok, Rs.bind_no, Rs.out_ok, Out.then_nx, Out.then_rt, Out.then_ct, Out.then_bk, fin_rt, fin_nx, List.getElem?_cons_zero, List.getElem?_cons_succ, List.set_cons_succ, List.set_cons_zero, List.length_cons, List.length_nil, Nat.reduceAdd, Nat.reduceLT, Nat.reduceLeDiff, Nat.reduceEqDiff, if_true, if_false, Bool.false_eq_true, Bool.not_true, Bool.not_false, and_self, true_and, and_true, List.map_cons, List.map_nil, Option.map_some, sh_int, sh_bool, sh_none, sh_tup, sh_lst, eqv_int, reduceIte, Option.bind_some, Option.bind_none, kitB_ll, kitB_lt, kitB_tt, kitB_tl, kitB_ii, tyD_list, tyD_int, Bool.true_and, Bool.false_and, Bool.and_true, Bool.and_false, Bool.or_true, Bool.true_or, Bool.false_or, Bool.or_false, Bool.and_self, Bool.or_self, e_cAK, List.append_nil, List.nil_append, List.cons_append, e_andB, e_orB, e_andR, e_orR, tyD_tuple, eqv_bool, eqv_none, tyD_bool, tyD_str, tyD_none, kitB_bb, kitB_nb, kitB_bi, kitB_ib, kitB_nl, kitB_nt, beq_self_eq_true, un, hx, hmem]
    try rfl
end
def kp_1 : VEnv → Out := (sFz 3 (sSet 4 (cA (fun rs => if rs.length = 3 then F__law_ways (rs.map RV.arg) else .no) (aC (c2 gIx (cV 2) (cC (.int 0))) (aC (cV 3) (aC (cA gTupl aN) aN))))))
def kp_2 : VEnv → Out := (sSet 5 (cA (fun rs => if rs.length = 3 then F__law_draw (rs.map RV.arg) else .no) (aC (cV 0) (aC (cV 1) (aC (cA gList (aC (cC (.int 9)) (aC (cC (.int 40)) (aC (cC (.int 40)) (aC (cC (.int 64)) (aC (cC (.int 9)) aN)))))) aN)))))
def kp_3 : VEnv → Out := (sSet 6 (cC .none))
def kp_4 : VEnv → Out := (sSet 7 (c2 gAdd (cC (.int 1)) (cMaxV (cV 4))))
def kp_5 : VEnv → Out := (sIf (cB (c2 gInD (c2 gIx (cV 2) (cC (.int 1))) (cV 4))) (sSeq (sSet 6 (c2 gIxD (cV 4) (c2 gIx (cV 2) (cC (.int 1))))) (sFz 6 (sSet 7 (cV 6)))) sNil)
def kp_6 : VEnv → Out := (sSet 8 (cLc (iR gR1 (aC (cV 7) aN)) [9] (.nm 9) bYes (cA gSortedA (aC (cLc (iD (cV 4)) [13] (.nm 13) (cB (c2 gEq (c2 gIxD (cV 4) (cV 13)) (cV 9))) (cV 13)) aN))))
def kp_7 : VEnv → Out := (sSet 9 (c2 gMod (c2 gIx (cV 5) (cC (.int 1))) (cA gLen (aC (cV 8) aN))))
def kp_8 : VEnv → Out := (sSet 10 (cA gList (aC (cC (.int 1)) (aC (cC (.int 2)) (aC (cC (.int 4)) (aC (cC (.int 8)) (aC (cC (.int 16)) (aC (cC (.int 32)) aN))))))))
def kp_9 : VEnv → Out := (sSet 11 (cA gTupleC (aC (cLc (iR gR1 (aC (cA gLen (aC (c2 gIx (cV 2) (cC (.int 0))) aN)) aN)) [12] (.nm 12) (cB (c2 gEq (c2 gMod (c2 gDiv (c2 gIx (cV 5) (cC (.int 3))) (c2 gIx (cV 10) (cV 12))) (cC (.int 2))) (cC (.int 1)))) (cV 12)) aN)))
def kp_10 : VEnv → Out := (sIf (bAnd (cB (c2 gEq (c2 gIx (cV 5) (cC (.int 0))) (cC (.int 0)))) (cB (c2 gGt (cA gLen (aC (c2 gIx (cV 8) (cV 9)) aN)) (cC (.int 0))))) (sSeq (sSet 12 (c2 gMod (c2 gIx (cV 5) (cC (.int 2))) (cA gLen (aC (c2 gIx (cV 8) (cV 9)) aN)))) (sStore 8 (cV 9) (c2 gAdd (cSl (c2 gIx (cV 8) (cV 9)) oN (oS (cV 12))) (cSl (c2 gIx (cV 8) (cV 9)) (oS (c2 gAdd (cV 12) (cC (.int 1)))) oN)))) (sIf (cB (c2 gEq (c2 gIx (cV 5) (cC (.int 0))) (cC (.int 1)))) (sStore 8 (cV 9) (c2 gAdd (c2 gIx (cV 8) (cV 9)) (cA gList (aC (cV 11) aN)))) (sIf (cB (c2 gEq (c2 gIx (cV 5) (cC (.int 0))) (cC (.int 2)))) (sSeq (sSet 8 (c2 gAdd (cSl (cV 8) oN (oS (cV 9))) (cSl (cV 8) (oS (c2 gAdd (cV 9) (cC (.int 1)))) oN))) (sIf (cB (c2 gEq (cA gLen (aC (cV 8) aN)) (cC (.int 0)))) (sSet 8 (cA gList (aC (cA gList (aC (cA gTupl aN) aN)) aN))) sNil)) (sIf (cB (c2 gEq (c2 gIx (cV 5) (cC (.int 0))) (cC (.int 3)))) (sSet 8 (c2 gAdd (cV 8) (cA gList (aC (cA gList (aC (cV 11) aN)) aN)))) (sIf (cB (c2 gEq (c2 gIx (cV 5) (cC (.int 0))) (cC (.int 4)))) (sSet 6 (c2 gIx (cA gList (aC (cC .none) (aC (c2 gAdd (cC (.int 1)) (c2 gIx (cV 5) (cC (.int 4)))) (aC (cA gLen (aC (cV 8) aN)) aN)))) (c2 gMod (c2 gIx (cV 5) (cC (.int 4))) (cC (.int 3))))) (sIf (cB (c2 gEq (c2 gIx (cV 5) (cC (.int 0))) (cC (.int 5)))) (sSet 3 (c2 gAdd (cC (.int 1)) (c2 gMod (c2 gAdd (cV 3) (c2 gIx (cV 5) (cC (.int 4)))) (cC (.int 8))))) (sIf (cB (c2 gEq (c2 gIx (cV 5) (cC (.int 0))) (cC (.int 6)))) (sSeq (sStore 8 (cV 9) (c1 gRev (c2 gIx (cV 8) (cV 9)))) (sSeq (sSet 8 (c2 gAdd (cV 8) (cA gList (aC (cA gList aN) aN)))) (sIf (cB (c2 gIsNot (cV 6) (cC .none))) (sSet 6 (c2 gAdd (cV 6) (cC (.int 1)))) sNil))) (sIf (bAnd (cB (c2 gEq (c2 gIx (cV 5) (cC (.int 0))) (cC (.int 7)))) (cB (c2 gGt (cA gLen (aC (cV 8) aN)) (cC (.int 1))))) (sStore 8 (cC (.int 0)) (c2 gAdd (c2 gIx (cV 8) (cC (.int 0))) (c2 gIx (cV 8) (cC (.int 1))))) sNil))))))))
def kp_r : VEnv → Out := (sFz 6 (sFz 3 (sRet (cA gTupl (aC (cV 3) (aC (cV 6) (aC (cA gTupleC (aC (cLc (iAb (cV 8)) [14] (.nm 14) bYes (cA gTupleC (aC (cV 14) aN))) aN)) aN)))))))
theorem kp_eq : B__law_paper = (sSeq kp_1 (sSeq kp_2 (sSeq kp_3 (sSeq kp_4 (sSeq kp_5 (sSeq kp_6 (sSeq kp_7 (sSeq kp_8 (sSeq kp_9 (sSeq kp_10 kp_r)))))))))) := rfl
theorem lev_in9 (T : List (List Int × List Int)) (n : (T.map (·.1)).Nodup) (k : Nat) (env : VEnv) (hl : 14 ≤ env.length) (h6 : env[4]? = some (some (.ot (encD T)))) (h12 : env[9]? = some (some (.d (.int (k : Int))))) :
    lcF (.nm 13) (cB (c2 gEq (c2 gIxD (cV 4) (cV 13)) (cV 9))) (cV 13) env (T.map fun e => tupD e.1) = .ok (((T.filter fun e => decide (e.2.length = k)).map (·.1)).map tupD) := by
  rw [lcF_map (fun e : List Int × List Int => tupD e.1) (fun e => decide (e.2.length = k)) (fun e => tupD e.1) T fun e he => ⟨env.set 13 (some (.d (tupD e.1))), by rw [e_tgnm, if_pos (by omega)], by
    have k6 : (env.set 13 (some (.d (tupD e.1))))[4]? = some (some (.ot (encD T))) := by rw [List.getElem?_set_ne (by omega)]; exact h6
    have k12 : (env.set 13 (some (.d (tupD e.1))))[9]? = some (some (.d (.int (k : Int)))) := by rw [List.getElem?_set_ne (by omega)]; exact h12
    have k11 : (env.set 13 (some (.d (tupD e.1))))[13]? = some (some (.d (tupD e.1))) := List.getElem?_set_self (by omega)
    have hg : dGet (encD T) e.1 = some (.int (e.2.length : Int)) := by rw [dGet_D, tget_of n (p := e.2) he]; rfl
    have hk := kd_tup e.1
    have dd : decide ((e.2.length : Int) = (k : Int)) = decide (e.2.length = k) := by
      by_cases c : e.2.length = k
      · rw [decide_eq_true c, decide_eq_true (by omega)]
      · rw [decide_eq_false c, decide_eq_false (by omega)]
    generalize env.set 13 (some (.d (tupD e.1))) = E at *
    generalize tupD e.1 = X at *
    simp only [e_nil, e_seq, e_fz, e_bk, e_ct, e_ret, e_retN, e_drop, e_set, e_if, e_for, e_cC, e_c2, e_c1, e_cA, e_aN, e_aC, e_cB, e_asB, e_bNot, e_bAnd, e_bOr, e_vAnd, e_vOr, e_vNot, e_vIf, e_bYes, e_iL, e_iT, e_iLb, e_iR, e_gL1, e_gL2, e_gL3, e_gT, e_gLb1, e_gLb2, e_gLb3, e_gLb4, e_nb1, e_nb2, e_bor1, e_bor2, e_bor3, e_bor4, e_arg1, e_arg2, e_arg3, e_arg4, e_putd, e_puto, e_toD1, e_toD2, e_allD0, e_allD1, e_allD2, e_gTupl, e_gList, e_tgnm, e_tgtp, e_tg0, e_tg1, e_sq1, e_sq2, e_sq3, e_sq4, e_sq5, e_qv2, e_qv3, e_qv4, e_qv5, e_data1, e_data2, e_data3, e_okI, e_okB, e_i2, e_sub, e_mul, e_mod, e_div, e_pow, e_lt, e_le, e_gt, e_ge, e_neg, e_addI, e_addS, e_addT, e_addL1, e_addL2, e_addL3, e_addL4, e_addL5, e_addL6, e_addL7, e_addL8, e_addL9, e_eq, e_ne, e_in, e_notIn, e_inT, e_inT2, e_inL1, e_inL2, e_inL3, e_is, e_isNot, e_isN1, e_isN2, e_isN3, e_isN4, e_isN5, e_isN6, e_isN7, e_ixT, e_ixL, e_ixO, e_ixB, e_ixSc, e_lenT, e_lenL, e_lenO, e_lenB, e_lenSc, e_lenS, e_tupT, e_tupL, e_tupO, e_tupB, e_lisT, e_lisL, e_lisO, e_lisB, e_min2, e_max2, e_any, e_all, e_sum, e_sorted, e_rev, e_sl, e_oN, e_isi, e_lc, e_wipe0, e_wipe1, e_iA, e_iAb, e_gAq1, e_gAq2, e_gAq3, e_gAqb1, e_gAqb2, e_gAqb3, e_gAqb4, e_no, e_cCh, e_cChI, e_aug, e_decT, e_decF, e_cDispS, e_cDT, e_cDK, e_cDisp1, e_storeA, e_stR1, e_stR2, e_stR3, e_sd1, e_keyD1, e_keyD2, e_keyTD, e_intsD, e_intsD0, e_borT, e_borT2, e_borK, e_borK2, e_argT, e_argT2, e_argK, e_argK2, e_nbT, e_nbK, e_putT, e_putK, e_gAt1, e_gAt2, e_gAt3, e_gAt4, e_gGetDK, e_gGetDT, e_gIxD, e_gInD, e_gNotInD, e_cGet1, e_cGet2, e_dk1, e_dk2, e_dk3, e_dk4, e_dt1, e_dt2, e_del, atI_zero, e_at1, e_at2, e_at3, e_at4, e_at5, e_at6, e_at7, e_at8, e_at9, e_atm, e_V, e_retV, e_unp, e_app, e_store, e_fzE, oS, rsO_some, Rs.bind_ok, Rs.bind_no, Rs.out_ok, Out.then_nx, Out.then_rt, Out.then_ct, Out.then_bk, fin_rt, fin_nx, List.getElem?_cons_zero, List.getElem?_cons_succ, List.set_cons_succ, List.set_cons_zero, List.length_cons, List.length_nil, Nat.reduceAdd, Nat.reduceLT, Nat.reduceLeDiff, Nat.reduceEqDiff, if_true, if_false, Bool.false_eq_true, Bool.not_true, Bool.not_false, and_self, true_and, and_true, List.map_cons, List.map_nil, Option.map_some, sh_int, sh_bool, sh_none, sh_tup, sh_lst, eqv_int, reduceIte, Option.bind_some, Option.bind_none, kitB_ll, kitB_lt, kitB_tt, kitB_tl, kitB_ii, tyD_list, tyD_int, Bool.true_and, Bool.false_and, Bool.and_true, Bool.and_false, Bool.or_true, Bool.true_or, Bool.false_or, Bool.or_false, Bool.and_self, Bool.or_self, e_cAK, List.append_nil, List.nil_append, List.cons_append, e_andB, e_orB, e_andR, e_orR, tyD_tuple, eqv_bool, eqv_none, tyD_bool, tyD_str, tyD_none, kitB_bb, kitB_nb, kitB_bi, kitB_ib, kitB_nl, kitB_nt, beq_self_eq_true, k6, k11, k12, hk, hg, dd], fun _ => ⟨.d (tupD e.1), by
    have k11 : (env.set 13 (some (.d (tupD e.1))))[13]? = some (some (.d (tupD e.1))) := List.getElem?_set_self (by omega)
    simp only [e_nil, e_seq, e_fz, e_bk, e_ct, e_ret, e_retN, e_drop, e_set, e_if, e_for, e_cC, e_c2, e_c1, e_cA, e_aN, e_aC, e_cB, e_asB, e_bNot, e_bAnd, e_bOr, e_vAnd, e_vOr, e_vNot, e_vIf, e_bYes, e_iL, e_iT, e_iLb, e_iR, e_gL1, e_gL2, e_gL3, e_gT, e_gLb1, e_gLb2, e_gLb3, e_gLb4, e_nb1, e_nb2, e_bor1, e_bor2, e_bor3, e_bor4, e_arg1, e_arg2, e_arg3, e_arg4, e_putd, e_puto, e_toD1, e_toD2, e_allD0, e_allD1, e_allD2, e_gTupl, e_gList, e_tgnm, e_tgtp, e_tg0, e_tg1, e_sq1, e_sq2, e_sq3, e_sq4, e_sq5, e_qv2, e_qv3, e_qv4, e_qv5, e_data1, e_data2, e_data3, e_okI, e_okB, e_i2, e_sub, e_mul, e_mod, e_div, e_pow, e_lt, e_le, e_gt, e_ge, e_neg, e_addI, e_addS, e_addT, e_addL1, e_addL2, e_addL3, e_addL4, e_addL5, e_addL6, e_addL7, e_addL8, e_addL9, e_eq, e_ne, e_in, e_notIn, e_inT, e_inT2, e_inL1, e_inL2, e_inL3, e_is, e_isNot, e_isN1, e_isN2, e_isN3, e_isN4, e_isN5, e_isN6, e_isN7, e_ixT, e_ixL, e_ixO, e_ixB, e_ixSc, e_lenT, e_lenL, e_lenO, e_lenB, e_lenSc, e_lenS, e_tupT, e_tupL, e_tupO, e_tupB, e_lisT, e_lisL, e_lisO, e_lisB, e_min2, e_max2, e_any, e_all, e_sum, e_sorted, e_rev, e_sl, e_oN, e_isi, e_lc, e_wipe0, e_wipe1, e_iA, e_iAb, e_gAq1, e_gAq2, e_gAq3, e_gAqb1, e_gAqb2, e_gAqb3, e_gAqb4, e_no, e_cCh, e_cChI, e_aug, e_decT, e_decF, e_cDispS, e_cDT, e_cDK, e_cDisp1, e_storeA, e_stR1, e_stR2, e_stR3, e_sd1, e_keyD1, e_keyD2, e_keyTD, e_intsD, e_intsD0, e_borT, e_borT2, e_borK, e_borK2, e_argT, e_argT2, e_argK, e_argK2, e_nbT, e_nbK, e_putT, e_putK, e_gAt1, e_gAt2, e_gAt3, e_gAt4, e_gGetDK, e_gGetDT, e_gIxD, e_gInD, e_gNotInD, e_cGet1, e_cGet2, e_dk1, e_dk2, e_dk3, e_dk4, e_dt1, e_dt2, e_del, atI_zero, e_at1, e_at2, e_at3, e_at4, e_at5, e_at6, e_at7, e_at8, e_at9, e_atm, e_V, e_retV, e_unp, e_app, e_store, e_fzE, oS, rsO_some, Rs.bind_ok, Rs.bind_no, Rs.out_ok, Out.then_nx, Out.then_rt, Out.then_ct, Out.then_bk, fin_rt, fin_nx, List.getElem?_cons_zero, List.getElem?_cons_succ, List.set_cons_succ, List.set_cons_zero, List.length_cons, List.length_nil, Nat.reduceAdd, Nat.reduceLT, Nat.reduceLeDiff, Nat.reduceEqDiff, if_true, if_false, Bool.false_eq_true, Bool.not_true, Bool.not_false, and_self, true_and, and_true, List.map_cons, List.map_nil, Option.map_some, sh_int, sh_bool, sh_none, sh_tup, sh_lst, eqv_int, reduceIte, Option.bind_some, Option.bind_none, kitB_ll, kitB_lt, kitB_tt, kitB_tl, kitB_ii, tyD_list, tyD_int, Bool.true_and, Bool.false_and, Bool.and_true, Bool.and_false, Bool.or_true, Bool.true_or, Bool.false_or, Bool.or_false, Bool.and_self, Bool.or_self, e_cAK, List.append_nil, List.nil_append, List.cons_append, e_andB, e_orB, e_andR, e_orR, tyD_tuple, eqv_bool, eqv_none, tyD_bool, tyD_str, tyD_none, kitB_bb, kitB_nb, kitB_bi, kitB_ib, kitB_nl, kitB_nt, beq_self_eq_true, k11], rfl⟩⟩]
  rw [List.map_map]
  rfl
theorem levs_out9 (T : List (List Int × List Int)) (n : (T.map (·.1)).Nodup) (hT : T.length ≤ 256) (env : VEnv) (hl : 14 ≤ env.length) (h6 : env[4]? = some (some (.ot (encD T)))) (many : Nat) :
    lcF (.nm 9) bYes (cA gSortedA (aC (cLc (iD (cV 4)) [13] (.nm 13) (cB (c2 gEq (c2 gIxD (cV 4) (cV 13)) (cV 9))) (cV 13)) aN)) env ((List.range many).map natI) = .ok ((List.range many).map fun k => lstL (levM T k)) := by
  rw [lcF_map natI (fun _ => true) (fun k => lstL (levM T k)) (List.range many) fun k _ => ⟨env.set 9 (some (.d (.int (k : Int)))), by rw [e_tgnm, if_pos (by omega)]; rfl, rfl, fun _ => ⟨.ol ((levM T k).map tupD), by
    have k6 : (env.set 9 (some (.d (.int (k : Int)))))[4]? = some (some (.ot (encD T))) := by rw [List.getElem?_set_ne (by omega)]; exact h6
    have k12 : (env.set 9 (some (.d (.int (k : Int)))))[9]? = some (some (.d (.int (k : Int)))) := List.getElem?_set_self (by omega)
    have kl : 14 ≤ (env.set 9 (some (.d (.int (k : Int))))).length := by rw [List.length_set]; exact hl
    have hin := lev_in9 T n k ((env.set 9 (some (.d (.int (k : Int))))).set 13 none) (by rw [List.length_set]; exact kl) (by rw [List.getElem?_set_ne (by omega)]; exact k6) (by rw [List.getElem?_set_ne (by omega)]; exact k12)
    have hk := keys_D T
    have hs : (isortT ((T.filter fun e => decide (e.2.length = k)).map (·.1))).map (fun r : List Int => PyData.tuple (r.map .int)) = (levM T k).map tupD := rfl
    have tI := tupsI_map ((T.filter fun e => decide (e.2.length = k)).map (·.1))
    have hz : (T.map fun e => tupD e.1).length ≤ 1000000 := by rw [List.length_map]; omega
    generalize env.set 9 (some (.d (.int (k : Int)))) = E at *
    generalize (T.map fun e => tupD e.1) = TK at *
    have hw : wipeE E [13] = E.set 13 none := rfl
    simp only [e_nil, e_seq, e_fz, e_bk, e_ct, e_ret, e_retN, e_drop, e_set, e_if, e_for, e_cC, e_c2, e_c1, e_cA, e_aN, e_aC, e_cB, e_asB, e_bNot, e_bAnd, e_bOr, e_vAnd, e_vOr, e_vNot, e_vIf, e_bYes, e_iL, e_iT, e_iLb, e_iR, e_gL1, e_gL2, e_gL3, e_gT, e_gLb1, e_gLb2, e_gLb3, e_gLb4, e_nb1, e_nb2, e_bor1, e_bor2, e_bor3, e_bor4, e_arg1, e_arg2, e_arg3, e_arg4, e_putd, e_puto, e_toD1, e_toD2, e_allD0, e_allD1, e_allD2, e_gTupl, e_gList, e_tgnm, e_tgtp, e_tg0, e_tg1, e_sq1, e_sq2, e_sq3, e_sq4, e_sq5, e_qv2, e_qv3, e_qv4, e_qv5, e_data1, e_data2, e_data3, e_okI, e_okB, e_i2, e_sub, e_mul, e_mod, e_div, e_pow, e_lt, e_le, e_gt, e_ge, e_neg, e_addI, e_addS, e_addT, e_addL1, e_addL2, e_addL3, e_addL4, e_addL5, e_addL6, e_addL7, e_addL8, e_addL9, e_eq, e_ne, e_in, e_notIn, e_inT, e_inT2, e_inL1, e_inL2, e_inL3, e_is, e_isNot, e_isN1, e_isN2, e_isN3, e_isN4, e_isN5, e_isN6, e_isN7, e_ixT, e_ixL, e_ixO, e_ixB, e_ixSc, e_lenT, e_lenL, e_lenO, e_lenB, e_lenSc, e_lenS, e_tupT, e_tupL, e_tupO, e_tupB, e_lisT, e_lisL, e_lisO, e_lisB, e_min2, e_max2, e_any, e_all, e_sum, e_sorted, e_rev, e_sl, e_oN, e_isi, e_lc, e_wipe0, e_wipe1, e_iA, e_iAb, e_gAq1, e_gAq2, e_gAq3, e_gAqb1, e_gAqb2, e_gAqb3, e_gAqb4, e_no, e_cCh, e_cChI, e_aug, e_decT, e_decF, e_cDispS, e_cDT, e_cDK, e_cDisp1, e_storeA, e_stR1, e_stR2, e_stR3, e_sd1, e_keyD1, e_keyD2, e_keyTD, e_intsD, e_intsD0, e_borT, e_borT2, e_borK, e_borK2, e_argT, e_argT2, e_argK, e_argK2, e_nbT, e_nbK, e_putT, e_putK, e_gAt1, e_gAt2, e_gAt3, e_gAt4, e_gGetDK, e_gGetDT, e_gIxD, e_gInD, e_gNotInD, e_cGet1, e_cGet2, e_dk1, e_dk2, e_dk3, e_dk4, e_dt1, e_dt2, e_del, atI_zero, e_at1, e_at2, e_at3, e_at4, e_at5, e_at6, e_at7, e_at8, e_at9, e_atm, e_V, e_retV, e_unp, e_app, e_store, e_fzE, oS, rsO_some, Rs.bind_ok, Rs.bind_no, Rs.out_ok, Out.then_nx, Out.then_rt, Out.then_ct, Out.then_bk, fin_rt, fin_nx, List.getElem?_cons_zero, List.getElem?_cons_succ, List.set_cons_succ, List.set_cons_zero, List.length_cons, List.length_nil, Nat.reduceAdd, Nat.reduceLT, Nat.reduceLeDiff, Nat.reduceEqDiff, if_true, if_false, Bool.false_eq_true, Bool.not_true, Bool.not_false, and_self, true_and, and_true, List.map_cons, List.map_nil, Option.map_some, sh_int, sh_bool, sh_none, sh_tup, sh_lst, eqv_int, reduceIte, Option.bind_some, Option.bind_none, kitB_ll, kitB_lt, kitB_tt, kitB_tl, kitB_ii, tyD_list, tyD_int, Bool.true_and, Bool.false_and, Bool.and_true, Bool.and_false, Bool.or_true, Bool.true_or, Bool.false_or, Bool.or_false, Bool.and_self, Bool.or_self, e_cAK, List.append_nil, List.nil_append, List.cons_append, e_andB, e_orB, e_andR, e_orR, tyD_tuple, eqv_bool, eqv_none, tyD_bool, tyD_str, tyD_none, kitB_bb, kitB_nb, kitB_bi, kitB_ib, kitB_nl, kitB_nt, beq_self_eq_true, e_iD, k6, hk, if_pos hz, hw, hin, e_sortedA, tI, hs], rfl⟩⟩]
  rw [List.filter_eq_self.mpr (fun _ _ => rfl)]
/-! ### the paper of a law, changed -/
theorem chg_ok (us : List (List Int)) (e0 e1 e2 e4 e7 e10 e12 e13 e14 : Option RV) (reg : Nat) (h0 : reg ≤ 8) (d0 d1 d2 d3 d4 : Nat) (b0 : d0 < 9) (m : Option Int) (Ls : List (List (List Int))) (hL : Lvs us Ls 300 300) (k : Nat) (hk : k < Ls.length) (odd : List Int) (ho : Cf us.length odd) :
    ∃ (reg' : Nat) (m' : Option Int) (Ls' : List (List (List Int))) (e12' : Option RV), reg' ≤ 8 ∧ Lvs us Ls' 301 601 ∧
      kp_10 [e0, e1, e2, some (.d (.int (reg : Int))), e4, some (.ol [.int (d0 : Int), .int (d1 : Int), .int (d2 : Int), .int (d3 : Int), .int (d4 : Int)]), some (.d (optI m)), e7, some (.ol (Ls.map lstL)), some (.d (.int (k : Int))), e10, some (.d (tupD odd)), e12, e13, e14] = .nx [e0, e1, e2, some (.d (.int (reg' : Int))), e4, some (.ol [.int (d0 : Int), .int (d1 : Int), .int (d2 : Int), .int (d3 : Int), .int (d4 : Int)]), some (.d (optI m')), e7, some (.ol (Ls'.map lstL)), some (.d (.int (k : Int))), e10, some (.d (tupD odd)), e12', e13, e14] := by
  have up : Lvs us Ls 301 601 := ⟨hL.ne, Nat.le_succ_of_le hL.len, fun l hl => Nat.le_trans (hL.row l hl) (by omega), hL.cf⟩
  obtain ⟨lk, hlk⟩ : ∃ lk, lk = Ls.getD k [] := ⟨_, rfl⟩
  have mem : ∀ i, i < Ls.length → Ls.getD i [] ∈ Ls := fun i hi => by rw [List.getD_eq_getElem?_getD, List.getElem?_eq_getElem hi]; exact List.getElem_mem hi
  have mk : lk ∈ Ls := by rw [hlk]; exact mem k hk
  have hx := lst_at hk
  rw [← hlk] at hx
  have ll := hL.row lk mk
  have l3 := hL.len
  have hln : gLen [.d (lstL lk)] = .ok (.d (.int (lk.length : Int))) := by unfold lstL; rw [e_lenL, List.length_map]
  have hnL : (Ls.map lstL).length = Ls.length := List.length_map ..
  have ixn : ixN (Ls.map lstL).length (k : Int) = some k := ixN_nat (by rw [hnL]; exact hk)
  rw [hnL] at ixn
  have sto : ∀ (i : Nat) (l : List (List Int)), (Ls.map lstL).set i (.list (l.map tupD)) = (Ls.set i l).map lstL := fun i l => by rw [List.map_set]; rfl
  have okS : ∀ (i : Nat) (l : List (List Int)), l.length ≤ 601 → (∀ h ∈ l, Cf us.length h) → Lvs us (Ls.set i l) 300 601 := fun i l hl hc => by
    have mem : ∀ x ∈ Ls.set i l, x ∈ Ls ∨ x = l := fun x hx => List.mem_or_eq_of_mem_set hx
    refine ⟨fun z => hL.ne (by have := congrArg List.length z; rw [List.length_set] at this; exact List.eq_nil_of_length_eq_zero this), by rw [List.length_set]; omega, fun x hx => ?_, fun x hx => ?_⟩
    · rcases mem x hx with z | rfl
      · exact Nat.le_trans (hL.row x z) (by omega)
      · exact hl
    · rcases mem x hx with z | rfl
      · exact hL.cf x z
      · exact hc
  have more : ∀ {L : List (List (List Int))}, Lvs us L 300 601 → Lvs us L 301 601 := fun h => ⟨h.ne, Nat.le_succ_of_le h.len, h.row, h.cf⟩
  have snoc : ∀ {L : List (List (List Int))} (l : List (List Int)), Lvs us L 300 601 → l.length ≤ 601 → (∀ h ∈ l, Cf us.length h) → Lvs us (L ++ [l]) 301 601 := fun l h hl hc => by
    have := h.len
    refine ⟨by simp, by simp; omega, fun x hx => ?_, fun x hx y hy => ?_⟩
    · rcases List.mem_append.mp hx with z | z
      · exact h.row x z
      · rw [List.mem_singleton.mp z]; exact hl
    · rcases List.mem_append.mp hx with z | z
      · exact h.cf x z y hy
      · rw [List.mem_singleton.mp z] at hy; exact hc y hy
  have low : Lvs us Ls 300 601 := ⟨hL.ne, hL.len, fun l hl => Nat.le_trans (hL.row l hl) (by omega), hL.cf⟩
  by_cases c0 : d0 = 0
  · subst c0
    by_cases cl : 0 < lk.length
    · obtain ⟨j, hj⟩ : ∃ j, j = d2 % lk.length := ⟨_, rfl⟩
      have md : gMod (.d (.int (d2 : Int))) (.d (.int (lk.length : Int))) = .ok (.d (.int (j : Int))) := by rw [hj]; exact e_modN d2 lk.length cl
      have dg : decide ((lk.length : Int) > 0) = true := decide_eq_true (by omega)
      have c1 : cutL (lk.map tupD) none (some (j : Int)) = (lk.take j).map tupD := by rw [cut_take, List.map_take]
      have c2' : cutL (lk.map tupD) (some ((j : Int) + 1)) none = (lk.drop (j + 1)).map tupD := by rw [show (j : Int) + 1 = ((j + 1 : Nat) : Int) by omega, cut_drop, List.map_drop]
      have lz : (lk.take j).length + (lk.drop (j + 1)).length ≤ 300 := by rw [List.length_take, List.length_drop]; omega
      have s1 := sto k (lk.take j ++ lk.drop (j + 1))
      rw [List.map_append] at s1
      refine ⟨reg, m, Ls.set k (lk.take j ++ lk.drop (j + 1)), some (.d (.int (j : Int))), h0, more (okS k _ (by rw [List.length_append]; omega) (fun h hh => ?_)), ?_⟩
      · rcases List.mem_append.mp hh with z | z
        · exact hL.cf lk mk h (List.mem_of_mem_take z)
        · exact hL.cf lk mk h (List.mem_of_mem_drop z)
      · rw [← s1]
        have sl := sl_lst lk
        generalize optI m = MM at *
        generalize tupD odd = OO at *
        generalize lstL lk = LK at *
        generalize Ls.map lstL = LL at *
        show kp_10 [e0, e1, e2, some (.d (.int (reg : Int))), e4, some (.ol [.int 0, .int (d1 : Int), .int (d2 : Int), .int (d3 : Int), .int (d4 : Int)]), some (.d MM), e7, some (.ol LL), some (.d (.int (k : Int))), e10, some (.d OO), e12, e13, e14] = _
        unfold kp_10
        simp only [e_nil, e_seq, e_fz, e_bk, e_ct, e_ret, e_retN, e_drop, e_set, e_if, e_for, e_cC, e_c2, e_c1, e_cA, e_aN, e_aC, e_cB, e_asB, e_bNot, e_bAnd, e_bOr, e_vAnd, e_vOr, e_vNot, e_vIf, e_bYes, e_iL, e_iT, e_iLb, e_iR, e_gL1, e_gL2, e_gL3, e_gT, e_gLb1, e_gLb2, e_gLb3, e_gLb4, e_nb1, e_nb2, e_bor1, e_bor2, e_bor3, e_bor4, e_arg1, e_arg2, e_arg3, e_arg4, e_putd, e_puto, e_toD1, e_toD2, e_allD0, e_allD1, e_allD2, e_gTupl, e_gList, e_tgnm, e_tgtp, e_tg0, e_tg1, e_sq1, e_sq2, e_sq3, e_sq4, e_sq5, e_qv2, e_qv3, e_qv4, e_qv5, e_data1, e_data2, e_data3, e_okI, e_okB, e_i2, e_sub, e_mul, e_mod, e_div, e_pow, e_lt, e_le, e_gt, e_ge, e_neg, e_addI, e_addS, e_addT, e_addL1, e_addL2, e_addL3, e_addL4, e_addL5, e_addL6, e_addL7, e_addL8, e_addL9, e_eq, e_ne, e_in, e_notIn, e_inT, e_inT2, e_inL1, e_inL2, e_inL3, e_is, e_isNot, e_isN1, e_isN2, e_isN3, e_isN4, e_isN5, e_isN6, e_isN7, e_ixT, e_ixL, e_ixO, e_ixB, e_ixSc, e_lenT, e_lenL, e_lenO, e_lenB, e_lenSc, e_lenS, e_tupT, e_tupL, e_tupO, e_tupB, e_lisT, e_lisL, e_lisO, e_lisB, e_min2, e_max2, e_any, e_all, e_sum, e_sorted, e_rev, e_sl, e_oN, e_isi, e_lc, e_wipe0, e_wipe1, e_iA, e_iAb, e_gAq1, e_gAq2, e_gAq3, e_gAqb1, e_gAqb2, e_gAqb3, e_gAqb4, e_no, e_cCh, e_cChI, e_aug, e_decT, e_decF, e_cDispS, e_cDT, e_cDK, e_cDisp1, e_storeA, e_stR1, e_stR2, e_stR3, e_sd1, e_keyD1, e_keyD2, e_keyTD, e_intsD, e_intsD0, e_borT, e_borT2, e_borK, e_borK2, e_argT, e_argT2, e_argK, e_argK2, e_nbT, e_nbK, e_putT, e_putK, e_gAt1, e_gAt2, e_gAt3, e_gAt4, e_gGetDK, e_gGetDT, e_gIxD, e_gInD, e_gNotInD, e_cGet1, e_cGet2, e_dk1, e_dk2, e_dk3, e_dk4, e_dt1, e_dt2, e_del, atI_zero, e_at1, e_at2, e_at3, e_at4, e_at5, e_at6, e_at7, e_at8, e_at9, e_atm, e_V, e_retV, e_unp, e_app, e_store, e_fzE, oS, rsO_some, Rs.bind_ok, Rs.bind_no, Rs.out_ok, Out.then_nx, Out.then_rt, Out.then_ct, Out.then_bk, fin_rt, fin_nx, List.getElem?_cons_zero, List.getElem?_cons_succ, List.set_cons_succ, List.set_cons_zero, List.length_cons, List.length_nil, Nat.reduceAdd, Nat.reduceLT, Nat.reduceLeDiff, Nat.reduceEqDiff, if_true, if_false, Bool.false_eq_true, Bool.not_true, Bool.not_false, and_self, true_and, and_true, List.map_cons, List.map_nil, Option.map_some, sh_int, sh_bool, sh_none, sh_tup, sh_lst, eqv_int, reduceIte, Option.bind_some, Option.bind_none, kitB_ll, kitB_lt, kitB_tt, kitB_tl, kitB_ii, tyD_list, tyD_int, Bool.true_and, Bool.false_and, Bool.and_true, Bool.and_false, Bool.or_true, Bool.true_or, Bool.false_or, Bool.or_false, Bool.and_self, Bool.or_self, e_cAK, List.append_nil, List.nil_append, List.cons_append, e_andB, e_orB, e_andR, e_orR, tyD_tuple, eqv_bool, eqv_none, tyD_bool, tyD_str, tyD_none, kitB_bb, kitB_nb, kitB_bi, kitB_ib, kitB_nl, kitB_nt, beq_self_eq_true, Int.reduceEq, decide_true, decide_false, hx, hln, hnL, dg, md, sl, c1, c2', List.length_map, if_pos (show (lk.take j).length + (lk.drop (j + 1)).length ≤ 1000000 by omega), ixn]
        try rfl
    · have dg : decide ((lk.length : Int) > 0) = false := decide_eq_false (by omega)
      refine ⟨reg, m, Ls, e12, h0, up, ?_⟩
      generalize optI m = MM at *
      generalize tupD odd = OO at *
      generalize lstL lk = LK at *
      generalize Ls.map lstL = LL at *
      show kp_10 [e0, e1, e2, some (.d (.int (reg : Int))), e4, some (.ol [.int 0, .int (d1 : Int), .int (d2 : Int), .int (d3 : Int), .int (d4 : Int)]), some (.d MM), e7, some (.ol LL), some (.d (.int (k : Int))), e10, some (.d OO), e12, e13, e14] = _
      unfold kp_10
      simp only [e_nil, e_seq, e_fz, e_bk, e_ct, e_ret, e_retN, e_drop, e_set, e_if, e_for, e_cC, e_c2, e_c1, e_cA, e_aN, e_aC, e_cB, e_asB, e_bNot, e_bAnd, e_bOr, e_vAnd, e_vOr, e_vNot, e_vIf, e_bYes, e_iL, e_iT, e_iLb, e_iR, e_gL1, e_gL2, e_gL3, e_gT, e_gLb1, e_gLb2, e_gLb3, e_gLb4, e_nb1, e_nb2, e_bor1, e_bor2, e_bor3, e_bor4, e_arg1, e_arg2, e_arg3, e_arg4, e_putd, e_puto, e_toD1, e_toD2, e_allD0, e_allD1, e_allD2, e_gTupl, e_gList, e_tgnm, e_tgtp, e_tg0, e_tg1, e_sq1, e_sq2, e_sq3, e_sq4, e_sq5, e_qv2, e_qv3, e_qv4, e_qv5, e_data1, e_data2, e_data3, e_okI, e_okB, e_i2, e_sub, e_mul, e_mod, e_div, e_pow, e_lt, e_le, e_gt, e_ge, e_neg, e_addI, e_addS, e_addT, e_addL1, e_addL2, e_addL3, e_addL4, e_addL5, e_addL6, e_addL7, e_addL8, e_addL9, e_eq, e_ne, e_in, e_notIn, e_inT, e_inT2, e_inL1, e_inL2, e_inL3, e_is, e_isNot, e_isN1, e_isN2, e_isN3, e_isN4, e_isN5, e_isN6, e_isN7, e_ixT, e_ixL, e_ixO, e_ixB, e_ixSc, e_lenT, e_lenL, e_lenO, e_lenB, e_lenSc, e_lenS, e_tupT, e_tupL, e_tupO, e_tupB, e_lisT, e_lisL, e_lisO, e_lisB, e_min2, e_max2, e_any, e_all, e_sum, e_sorted, e_rev, e_sl, e_oN, e_isi, e_lc, e_wipe0, e_wipe1, e_iA, e_iAb, e_gAq1, e_gAq2, e_gAq3, e_gAqb1, e_gAqb2, e_gAqb3, e_gAqb4, e_no, e_cCh, e_cChI, e_aug, e_decT, e_decF, e_cDispS, e_cDT, e_cDK, e_cDisp1, e_storeA, e_stR1, e_stR2, e_stR3, e_sd1, e_keyD1, e_keyD2, e_keyTD, e_intsD, e_intsD0, e_borT, e_borT2, e_borK, e_borK2, e_argT, e_argT2, e_argK, e_argK2, e_nbT, e_nbK, e_putT, e_putK, e_gAt1, e_gAt2, e_gAt3, e_gAt4, e_gGetDK, e_gGetDT, e_gIxD, e_gInD, e_gNotInD, e_cGet1, e_cGet2, e_dk1, e_dk2, e_dk3, e_dk4, e_dt1, e_dt2, e_del, atI_zero, e_at1, e_at2, e_at3, e_at4, e_at5, e_at6, e_at7, e_at8, e_at9, e_atm, e_V, e_retV, e_unp, e_app, e_store, e_fzE, oS, rsO_some, Rs.bind_ok, Rs.bind_no, Rs.out_ok, Out.then_nx, Out.then_rt, Out.then_ct, Out.then_bk, fin_rt, fin_nx, List.getElem?_cons_zero, List.getElem?_cons_succ, List.set_cons_succ, List.set_cons_zero, List.length_cons, List.length_nil, Nat.reduceAdd, Nat.reduceLT, Nat.reduceLeDiff, Nat.reduceEqDiff, if_true, if_false, Bool.false_eq_true, Bool.not_true, Bool.not_false, and_self, true_and, and_true, List.map_cons, List.map_nil, Option.map_some, sh_int, sh_bool, sh_none, sh_tup, sh_lst, eqv_int, reduceIte, Option.bind_some, Option.bind_none, kitB_ll, kitB_lt, kitB_tt, kitB_tl, kitB_ii, tyD_list, tyD_int, Bool.true_and, Bool.false_and, Bool.and_true, Bool.and_false, Bool.or_true, Bool.true_or, Bool.false_or, Bool.or_false, Bool.and_self, Bool.or_self, e_cAK, List.append_nil, List.nil_append, List.cons_append, e_andB, e_orB, e_andR, e_orR, tyD_tuple, eqv_bool, eqv_none, tyD_bool, tyD_str, tyD_none, kitB_bb, kitB_nb, kitB_bi, kitB_ib, kitB_nl, kitB_nt, beq_self_eq_true, Int.reduceEq, decide_true, decide_false, hx, hln, hnL, dg]
      try rfl
  by_cases c1 : d0 = 1
  · subst c1
    have s1 := sto k (lk ++ [odd])
    rw [List.map_append] at s1
    refine ⟨reg, m, Ls.set k (lk ++ [odd]), e12, h0, more (okS k _ (by simp; omega) (fun h hh => ?_)), ?_⟩
    · rcases List.mem_append.mp hh with z | z
      · exact hL.cf lk mk h z
      · rw [List.mem_singleton.mp z]; exact ho
    · rw [← s1]
      have ad : gAdd (.d (lstL lk)) (.ol [tupD odd]) = .ok (.ol (lk.map tupD ++ [tupD odd])) := by
        unfold lstL
        rw [e_addL5, if_pos (by simp; omega)]
      have e1' : [odd].map tupD = [tupD odd] := rfl
      rw [e1']
      generalize optI m = MM at *
      generalize tupD odd = OO at *
      generalize lstL lk = LK at *
      generalize Ls.map lstL = LL at *
      show kp_10 [e0, e1, e2, some (.d (.int (reg : Int))), e4, some (.ol [.int 1, .int (d1 : Int), .int (d2 : Int), .int (d3 : Int), .int (d4 : Int)]), some (.d MM), e7, some (.ol LL), some (.d (.int (k : Int))), e10, some (.d OO), e12, e13, e14] = _
      unfold kp_10
      simp only [e_nil, e_seq, e_fz, e_bk, e_ct, e_ret, e_retN, e_drop, e_set, e_if, e_for, e_cC, e_c2, e_c1, e_cA, e_aN, e_aC, e_cB, e_asB, e_bNot, e_bAnd, e_bOr, e_vAnd, e_vOr, e_vNot, e_vIf, e_bYes, e_iL, e_iT, e_iLb, e_iR, e_gL1, e_gL2, e_gL3, e_gT, e_gLb1, e_gLb2, e_gLb3, e_gLb4, e_nb1, e_nb2, e_bor1, e_bor2, e_bor3, e_bor4, e_arg1, e_arg2, e_arg3, e_arg4, e_putd, e_puto, e_toD1, e_toD2, e_allD0, e_allD1, e_allD2, e_gTupl, e_gList, e_tgnm, e_tgtp, e_tg0, e_tg1, e_sq1, e_sq2, e_sq3, e_sq4, e_sq5, e_qv2, e_qv3, e_qv4, e_qv5, e_data1, e_data2, e_data3, e_okI, e_okB, e_i2, e_sub, e_mul, e_mod, e_div, e_pow, e_lt, e_le, e_gt, e_ge, e_neg, e_addI, e_addS, e_addT, e_addL1, e_addL2, e_addL3, e_addL4, e_addL5, e_addL6, e_addL7, e_addL8, e_addL9, e_eq, e_ne, e_in, e_notIn, e_inT, e_inT2, e_inL1, e_inL2, e_inL3, e_is, e_isNot, e_isN1, e_isN2, e_isN3, e_isN4, e_isN5, e_isN6, e_isN7, e_ixT, e_ixL, e_ixO, e_ixB, e_ixSc, e_lenT, e_lenL, e_lenO, e_lenB, e_lenSc, e_lenS, e_tupT, e_tupL, e_tupO, e_tupB, e_lisT, e_lisL, e_lisO, e_lisB, e_min2, e_max2, e_any, e_all, e_sum, e_sorted, e_rev, e_sl, e_oN, e_isi, e_lc, e_wipe0, e_wipe1, e_iA, e_iAb, e_gAq1, e_gAq2, e_gAq3, e_gAqb1, e_gAqb2, e_gAqb3, e_gAqb4, e_no, e_cCh, e_cChI, e_aug, e_decT, e_decF, e_cDispS, e_cDT, e_cDK, e_cDisp1, e_storeA, e_stR1, e_stR2, e_stR3, e_sd1, e_keyD1, e_keyD2, e_keyTD, e_intsD, e_intsD0, e_borT, e_borT2, e_borK, e_borK2, e_argT, e_argT2, e_argK, e_argK2, e_nbT, e_nbK, e_putT, e_putK, e_gAt1, e_gAt2, e_gAt3, e_gAt4, e_gGetDK, e_gGetDT, e_gIxD, e_gInD, e_gNotInD, e_cGet1, e_cGet2, e_dk1, e_dk2, e_dk3, e_dk4, e_dt1, e_dt2, e_del, atI_zero, e_at1, e_at2, e_at3, e_at4, e_at5, e_at6, e_at7, e_at8, e_at9, e_atm, e_V, e_retV, e_unp, e_app, e_store, e_fzE, oS, rsO_some, Rs.bind_ok, Rs.bind_no, Rs.out_ok, Out.then_nx, Out.then_rt, Out.then_ct, Out.then_bk, fin_rt, fin_nx, List.getElem?_cons_zero, List.getElem?_cons_succ, List.set_cons_succ, List.set_cons_zero, List.length_cons, List.length_nil, Nat.reduceAdd, Nat.reduceLT, Nat.reduceLeDiff, Nat.reduceEqDiff, if_true, if_false, Bool.false_eq_true, Bool.not_true, Bool.not_false, and_self, true_and, and_true, List.map_cons, List.map_nil, Option.map_some, sh_int, sh_bool, sh_none, sh_tup, sh_lst, eqv_int, reduceIte, Option.bind_some, Option.bind_none, kitB_ll, kitB_lt, kitB_tt, kitB_tl, kitB_ii, tyD_list, tyD_int, Bool.true_and, Bool.false_and, Bool.and_true, Bool.and_false, Bool.or_true, Bool.true_or, Bool.false_or, Bool.or_false, Bool.and_self, Bool.or_self, e_cAK, List.append_nil, List.nil_append, List.cons_append, e_andB, e_orB, e_andR, e_orR, tyD_tuple, eqv_bool, eqv_none, tyD_bool, tyD_str, tyD_none, kitB_bb, kitB_nb, kitB_bi, kitB_ib, kitB_nl, kitB_nt, beq_self_eq_true, Int.reduceEq, decide_true, decide_false, hx, hln, hnL, ad, ixn]
      try rfl
  by_cases c2 : d0 = 2
  · subst c2
    have q1 : cutL (Ls.map lstL) none (some (k : Int)) = (Ls.take k).map lstL := by rw [cut_take, List.map_take]
    have q2 : cutL (Ls.map lstL) (some ((k : Int) + 1)) none = (Ls.drop (k + 1)).map lstL := by rw [show (k : Int) + 1 = ((k + 1 : Nat) : Int) by omega, cut_drop, List.map_drop]
    have lz : (Ls.take k).length + (Ls.drop (k + 1)).length + 1 = Ls.length := by rw [List.length_take, List.length_drop]; omega
    have sl := sl_bb (Ls.map lstL)
    by_cases cl : 1 < Ls.length
    · have dg : decide (((((Ls.take k).length + (Ls.drop (k + 1)).length : Nat)) : Int) = 0) = false := decide_eq_false (by omega)
      have hl' : Lvs us (Ls.take k ++ Ls.drop (k + 1)) 301 601 := by
        have mem : ∀ x ∈ Ls.take k ++ Ls.drop (k + 1), x ∈ Ls := fun x hx => by
          rcases List.mem_append.mp hx with z | z
          · exact List.mem_of_mem_take z
          · exact List.mem_of_mem_drop z
        refine ⟨fun z => ?_, by rw [List.length_append]; omega, fun x hx => Nat.le_trans (hL.row x (mem x hx)) (by omega), fun x hx => hL.cf x (mem x hx)⟩
        have := congrArg List.length z
        rw [List.length_append] at this
        simp only [List.length_nil] at this
        omega
      refine ⟨reg, m, _, e12, h0, hl', ?_⟩
      rw [List.map_append]
      generalize optI m = MM at *
      generalize tupD odd = OO at *
      generalize Ls.map lstL = LL at *
      show kp_10 [e0, e1, e2, some (.d (.int (reg : Int))), e4, some (.ol [.int 2, .int (d1 : Int), .int (d2 : Int), .int (d3 : Int), .int (d4 : Int)]), some (.d MM), e7, some (.ol LL), some (.d (.int (k : Int))), e10, some (.d OO), e12, e13, e14] = _
      unfold kp_10
      simp only [e_nil, e_seq, e_fz, e_bk, e_ct, e_ret, e_retN, e_drop, e_set, e_if, e_for, e_cC, e_c2, e_c1, e_cA, e_aN, e_aC, e_cB, e_asB, e_bNot, e_bAnd, e_bOr, e_vAnd, e_vOr, e_vNot, e_vIf, e_bYes, e_iL, e_iT, e_iLb, e_iR, e_gL1, e_gL2, e_gL3, e_gT, e_gLb1, e_gLb2, e_gLb3, e_gLb4, e_nb1, e_nb2, e_bor1, e_bor2, e_bor3, e_bor4, e_arg1, e_arg2, e_arg3, e_arg4, e_putd, e_puto, e_toD1, e_toD2, e_allD0, e_allD1, e_allD2, e_gTupl, e_gList, e_tgnm, e_tgtp, e_tg0, e_tg1, e_sq1, e_sq2, e_sq3, e_sq4, e_sq5, e_qv2, e_qv3, e_qv4, e_qv5, e_data1, e_data2, e_data3, e_okI, e_okB, e_i2, e_sub, e_mul, e_mod, e_div, e_pow, e_lt, e_le, e_gt, e_ge, e_neg, e_addI, e_addS, e_addT, e_addL1, e_addL2, e_addL3, e_addL4, e_addL5, e_addL6, e_addL7, e_addL8, e_addL9, e_eq, e_ne, e_in, e_notIn, e_inT, e_inT2, e_inL1, e_inL2, e_inL3, e_is, e_isNot, e_isN1, e_isN2, e_isN3, e_isN4, e_isN5, e_isN6, e_isN7, e_ixT, e_ixL, e_ixO, e_ixB, e_ixSc, e_lenT, e_lenL, e_lenO, e_lenB, e_lenSc, e_lenS, e_tupT, e_tupL, e_tupO, e_tupB, e_lisT, e_lisL, e_lisO, e_lisB, e_min2, e_max2, e_any, e_all, e_sum, e_sorted, e_rev, e_sl, e_oN, e_isi, e_lc, e_wipe0, e_wipe1, e_iA, e_iAb, e_gAq1, e_gAq2, e_gAq3, e_gAqb1, e_gAqb2, e_gAqb3, e_gAqb4, e_no, e_cCh, e_cChI, e_aug, e_decT, e_decF, e_cDispS, e_cDT, e_cDK, e_cDisp1, e_storeA, e_stR1, e_stR2, e_stR3, e_sd1, e_keyD1, e_keyD2, e_keyTD, e_intsD, e_intsD0, e_borT, e_borT2, e_borK, e_borK2, e_argT, e_argT2, e_argK, e_argK2, e_nbT, e_nbK, e_putT, e_putK, e_gAt1, e_gAt2, e_gAt3, e_gAt4, e_gGetDK, e_gGetDT, e_gIxD, e_gInD, e_gNotInD, e_cGet1, e_cGet2, e_dk1, e_dk2, e_dk3, e_dk4, e_dt1, e_dt2, e_del, atI_zero, e_at1, e_at2, e_at3, e_at4, e_at5, e_at6, e_at7, e_at8, e_at9, e_atm, e_V, e_retV, e_unp, e_app, e_store, e_fzE, oS, rsO_some, Rs.bind_ok, Rs.bind_no, Rs.out_ok, Out.then_nx, Out.then_rt, Out.then_ct, Out.then_bk, fin_rt, fin_nx, List.getElem?_cons_zero, List.getElem?_cons_succ, List.set_cons_succ, List.set_cons_zero, List.length_cons, List.length_nil, Nat.reduceAdd, Nat.reduceLT, Nat.reduceLeDiff, Nat.reduceEqDiff, if_true, if_false, Bool.false_eq_true, Bool.not_true, Bool.not_false, and_self, true_and, and_true, List.map_cons, List.map_nil, Option.map_some, sh_int, sh_bool, sh_none, sh_tup, sh_lst, eqv_int, reduceIte, Option.bind_some, Option.bind_none, kitB_ll, kitB_lt, kitB_tt, kitB_tl, kitB_ii, tyD_list, tyD_int, Bool.true_and, Bool.false_and, Bool.and_true, Bool.and_false, Bool.or_true, Bool.true_or, Bool.false_or, Bool.or_false, Bool.and_self, Bool.or_self, e_cAK, List.append_nil, List.nil_append, List.cons_append, e_andB, e_orB, e_andR, e_orR, tyD_tuple, eqv_bool, eqv_none, tyD_bool, tyD_str, tyD_none, kitB_bb, kitB_nb, kitB_bi, kitB_ib, kitB_nl, kitB_nt, beq_self_eq_true, Int.reduceEq, decide_true, decide_false, hx, hln, hnL, sl, q1, q2, List.length_append, List.length_map, if_pos (show (Ls.take k).length + (Ls.drop (k + 1)).length ≤ 1000000 by omega), dg]
      try rfl
    · have dg : decide (((((Ls.take k).length + (Ls.drop (k + 1)).length : Nat)) : Int) = 0) = true := decide_eq_true (by omega)
      have hl' : Lvs us [[[]]] 301 601 := ⟨by simp, by simp, fun x hx => by rw [List.mem_singleton.mp hx]; simp, fun x hx y hy => by
        rw [List.mem_singleton.mp hx] at hy
        rw [List.mem_singleton.mp hy]
        exact cf_nil _⟩
      refine ⟨reg, m, [[[]]], e12, h0, hl', ?_⟩
      have e1' : ([[[]]] : List (List (List Int))).map lstL = [.list [.tuple []]] := rfl
      rw [e1']
      generalize optI m = MM at *
      generalize tupD odd = OO at *
      generalize Ls.map lstL = LL at *
      show kp_10 [e0, e1, e2, some (.d (.int (reg : Int))), e4, some (.ol [.int 2, .int (d1 : Int), .int (d2 : Int), .int (d3 : Int), .int (d4 : Int)]), some (.d MM), e7, some (.ol LL), some (.d (.int (k : Int))), e10, some (.d OO), e12, e13, e14] = _
      unfold kp_10
      simp only [e_nil, e_seq, e_fz, e_bk, e_ct, e_ret, e_retN, e_drop, e_set, e_if, e_for, e_cC, e_c2, e_c1, e_cA, e_aN, e_aC, e_cB, e_asB, e_bNot, e_bAnd, e_bOr, e_vAnd, e_vOr, e_vNot, e_vIf, e_bYes, e_iL, e_iT, e_iLb, e_iR, e_gL1, e_gL2, e_gL3, e_gT, e_gLb1, e_gLb2, e_gLb3, e_gLb4, e_nb1, e_nb2, e_bor1, e_bor2, e_bor3, e_bor4, e_arg1, e_arg2, e_arg3, e_arg4, e_putd, e_puto, e_toD1, e_toD2, e_allD0, e_allD1, e_allD2, e_gTupl, e_gList, e_tgnm, e_tgtp, e_tg0, e_tg1, e_sq1, e_sq2, e_sq3, e_sq4, e_sq5, e_qv2, e_qv3, e_qv4, e_qv5, e_data1, e_data2, e_data3, e_okI, e_okB, e_i2, e_sub, e_mul, e_mod, e_div, e_pow, e_lt, e_le, e_gt, e_ge, e_neg, e_addI, e_addS, e_addT, e_addL1, e_addL2, e_addL3, e_addL4, e_addL5, e_addL6, e_addL7, e_addL8, e_addL9, e_eq, e_ne, e_in, e_notIn, e_inT, e_inT2, e_inL1, e_inL2, e_inL3, e_is, e_isNot, e_isN1, e_isN2, e_isN3, e_isN4, e_isN5, e_isN6, e_isN7, e_ixT, e_ixL, e_ixO, e_ixB, e_ixSc, e_lenT, e_lenL, e_lenO, e_lenB, e_lenSc, e_lenS, e_tupT, e_tupL, e_tupO, e_tupB, e_lisT, e_lisL, e_lisO, e_lisB, e_min2, e_max2, e_any, e_all, e_sum, e_sorted, e_rev, e_sl, e_oN, e_isi, e_lc, e_wipe0, e_wipe1, e_iA, e_iAb, e_gAq1, e_gAq2, e_gAq3, e_gAqb1, e_gAqb2, e_gAqb3, e_gAqb4, e_no, e_cCh, e_cChI, e_aug, e_decT, e_decF, e_cDispS, e_cDT, e_cDK, e_cDisp1, e_storeA, e_stR1, e_stR2, e_stR3, e_sd1, e_keyD1, e_keyD2, e_keyTD, e_intsD, e_intsD0, e_borT, e_borT2, e_borK, e_borK2, e_argT, e_argT2, e_argK, e_argK2, e_nbT, e_nbK, e_putT, e_putK, e_gAt1, e_gAt2, e_gAt3, e_gAt4, e_gGetDK, e_gGetDT, e_gIxD, e_gInD, e_gNotInD, e_cGet1, e_cGet2, e_dk1, e_dk2, e_dk3, e_dk4, e_dt1, e_dt2, e_del, atI_zero, e_at1, e_at2, e_at3, e_at4, e_at5, e_at6, e_at7, e_at8, e_at9, e_atm, e_V, e_retV, e_unp, e_app, e_store, e_fzE, oS, rsO_some, Rs.bind_ok, Rs.bind_no, Rs.out_ok, Out.then_nx, Out.then_rt, Out.then_ct, Out.then_bk, fin_rt, fin_nx, List.getElem?_cons_zero, List.getElem?_cons_succ, List.set_cons_succ, List.set_cons_zero, List.length_cons, List.length_nil, Nat.reduceAdd, Nat.reduceLT, Nat.reduceLeDiff, Nat.reduceEqDiff, if_true, if_false, Bool.false_eq_true, Bool.not_true, Bool.not_false, and_self, true_and, and_true, List.map_cons, List.map_nil, Option.map_some, sh_int, sh_bool, sh_none, sh_tup, sh_lst, eqv_int, reduceIte, Option.bind_some, Option.bind_none, kitB_ll, kitB_lt, kitB_tt, kitB_tl, kitB_ii, tyD_list, tyD_int, Bool.true_and, Bool.false_and, Bool.and_true, Bool.and_false, Bool.or_true, Bool.true_or, Bool.false_or, Bool.or_false, Bool.and_self, Bool.or_self, e_cAK, List.append_nil, List.nil_append, List.cons_append, e_andB, e_orB, e_andR, e_orR, tyD_tuple, eqv_bool, eqv_none, tyD_bool, tyD_str, tyD_none, kitB_bb, kitB_nb, kitB_bi, kitB_ib, kitB_nl, kitB_nt, beq_self_eq_true, Int.reduceEq, decide_true, decide_false, hx, hln, hnL, sl, q1, q2, List.length_append, List.length_map, if_pos (show (Ls.take k).length + (Ls.drop (k + 1)).length ≤ 1000000 by omega), dg]
      try rfl
  by_cases c3 : d0 = 3
  · subst c3
    refine ⟨reg, m, Ls ++ [[odd]], e12, h0, snoc _ low (by simp) (fun h hh => by rw [List.mem_singleton.mp hh]; exact ho), ?_⟩
    rw [List.map_append]
    have e1' : [[odd]].map lstL = [.list [tupD odd]] := rfl
    rw [e1']
    generalize optI m = MM at *
    generalize tupD odd = OO at *
    generalize Ls.map lstL = LL at *
    show kp_10 [e0, e1, e2, some (.d (.int (reg : Int))), e4, some (.ol [.int 3, .int (d1 : Int), .int (d2 : Int), .int (d3 : Int), .int (d4 : Int)]), some (.d MM), e7, some (.ol LL), some (.d (.int (k : Int))), e10, some (.d OO), e12, e13, e14] = _
    unfold kp_10
    simp only [e_nil, e_seq, e_fz, e_bk, e_ct, e_ret, e_retN, e_drop, e_set, e_if, e_for, e_cC, e_c2, e_c1, e_cA, e_aN, e_aC, e_cB, e_asB, e_bNot, e_bAnd, e_bOr, e_vAnd, e_vOr, e_vNot, e_vIf, e_bYes, e_iL, e_iT, e_iLb, e_iR, e_gL1, e_gL2, e_gL3, e_gT, e_gLb1, e_gLb2, e_gLb3, e_gLb4, e_nb1, e_nb2, e_bor1, e_bor2, e_bor3, e_bor4, e_arg1, e_arg2, e_arg3, e_arg4, e_putd, e_puto, e_toD1, e_toD2, e_allD0, e_allD1, e_allD2, e_gTupl, e_gList, e_tgnm, e_tgtp, e_tg0, e_tg1, e_sq1, e_sq2, e_sq3, e_sq4, e_sq5, e_qv2, e_qv3, e_qv4, e_qv5, e_data1, e_data2, e_data3, e_okI, e_okB, e_i2, e_sub, e_mul, e_mod, e_div, e_pow, e_lt, e_le, e_gt, e_ge, e_neg, e_addI, e_addS, e_addT, e_addL1, e_addL2, e_addL3, e_addL4, e_addL5, e_addL6, e_addL7, e_addL8, e_addL9, e_eq, e_ne, e_in, e_notIn, e_inT, e_inT2, e_inL1, e_inL2, e_inL3, e_is, e_isNot, e_isN1, e_isN2, e_isN3, e_isN4, e_isN5, e_isN6, e_isN7, e_ixT, e_ixL, e_ixO, e_ixB, e_ixSc, e_lenT, e_lenL, e_lenO, e_lenB, e_lenSc, e_lenS, e_tupT, e_tupL, e_tupO, e_tupB, e_lisT, e_lisL, e_lisO, e_lisB, e_min2, e_max2, e_any, e_all, e_sum, e_sorted, e_rev, e_sl, e_oN, e_isi, e_lc, e_wipe0, e_wipe1, e_iA, e_iAb, e_gAq1, e_gAq2, e_gAq3, e_gAqb1, e_gAqb2, e_gAqb3, e_gAqb4, e_no, e_cCh, e_cChI, e_aug, e_decT, e_decF, e_cDispS, e_cDT, e_cDK, e_cDisp1, e_storeA, e_stR1, e_stR2, e_stR3, e_sd1, e_keyD1, e_keyD2, e_keyTD, e_intsD, e_intsD0, e_borT, e_borT2, e_borK, e_borK2, e_argT, e_argT2, e_argK, e_argK2, e_nbT, e_nbK, e_putT, e_putK, e_gAt1, e_gAt2, e_gAt3, e_gAt4, e_gGetDK, e_gGetDT, e_gIxD, e_gInD, e_gNotInD, e_cGet1, e_cGet2, e_dk1, e_dk2, e_dk3, e_dk4, e_dt1, e_dt2, e_del, atI_zero, e_at1, e_at2, e_at3, e_at4, e_at5, e_at6, e_at7, e_at8, e_at9, e_atm, e_V, e_retV, e_unp, e_app, e_store, e_fzE, oS, rsO_some, Rs.bind_ok, Rs.bind_no, Rs.out_ok, Out.then_nx, Out.then_rt, Out.then_ct, Out.then_bk, fin_rt, fin_nx, List.getElem?_cons_zero, List.getElem?_cons_succ, List.set_cons_succ, List.set_cons_zero, List.length_cons, List.length_nil, Nat.reduceAdd, Nat.reduceLT, Nat.reduceLeDiff, Nat.reduceEqDiff, if_true, if_false, Bool.false_eq_true, Bool.not_true, Bool.not_false, and_self, true_and, and_true, List.map_cons, List.map_nil, Option.map_some, sh_int, sh_bool, sh_none, sh_tup, sh_lst, eqv_int, reduceIte, Option.bind_some, Option.bind_none, kitB_ll, kitB_lt, kitB_tt, kitB_tl, kitB_ii, tyD_list, tyD_int, Bool.true_and, Bool.false_and, Bool.and_true, Bool.and_false, Bool.or_true, Bool.true_or, Bool.false_or, Bool.or_false, Bool.and_self, Bool.or_self, e_cAK, List.append_nil, List.nil_append, List.cons_append, e_andB, e_orB, e_andR, e_orR, tyD_tuple, eqv_bool, eqv_none, tyD_bool, tyD_str, tyD_none, kitB_bb, kitB_nb, kitB_bi, kitB_ib, kitB_nl, kitB_nt, beq_self_eq_true, Int.reduceEq, decide_true, decide_false, hx, hln, hnL, if_pos (show Ls.length + 1 ≤ 1000000 by omega), if_pos (show Ls.length ≤ 999999 by omega)]
    try rfl
  by_cases c4 : d0 = 4
  · subst c4
    have md : gMod (.d (.int (d4 : Int))) (.d (.int 3)) = .ok (.d (.int ((d4 % 3 : Nat) : Int))) := e_modN d4 3 (by omega)
    have k3 : d4 % 3 = 0 ∨ d4 % 3 = 1 ∨ d4 % 3 = 2 := by omega
    have fin : ∀ m' : Option Int, atI [PyData.none, .int (1 + (d4 : Int)), .int (Ls.length : Int)] ((d4 % 3 : Nat) : Int) = some (optI m') → kp_10 [e0, e1, e2, some (.d (.int (reg : Int))), e4, some (.ol [.int ((4 : Nat) : Int), .int (d1 : Int), .int (d2 : Int), .int (d3 : Int), .int (d4 : Int)]), some (.d (optI m)), e7, some (.ol (Ls.map lstL)), some (.d (.int (k : Int))), e10, some (.d (tupD odd)), e12, e13, e14] = .nx [e0, e1, e2, some (.d (.int (reg : Int))), e4, some (.ol [.int ((4 : Nat) : Int), .int (d1 : Int), .int (d2 : Int), .int (d3 : Int), .int (d4 : Int)]), some (.d (optI m')), e7, some (.ol (Ls.map lstL)), some (.d (.int (k : Int))), e10, some (.d (tupD odd)), e12, e13, e14] := by
      intro m' hm'
      generalize optI m' = M' at *
      generalize optI m = MM at *
      generalize tupD odd = OO at *
      generalize Ls.map lstL = LL at *
      show kp_10 [e0, e1, e2, some (.d (.int (reg : Int))), e4, some (.ol [.int 4, .int (d1 : Int), .int (d2 : Int), .int (d3 : Int), .int (d4 : Int)]), some (.d MM), e7, some (.ol LL), some (.d (.int (k : Int))), e10, some (.d OO), e12, e13, e14] = _
      unfold kp_10
      simp only [e_nil, e_seq, e_fz, e_bk, e_ct, e_ret, e_retN, e_drop, e_set, e_if, e_for, e_cC, e_c2, e_c1, e_cA, e_aN, e_aC, e_cB, e_asB, e_bNot, e_bAnd, e_bOr, e_vAnd, e_vOr, e_vNot, e_vIf, e_bYes, e_iL, e_iT, e_iLb, e_iR, e_gL1, e_gL2, e_gL3, e_gT, e_gLb1, e_gLb2, e_gLb3, e_gLb4, e_nb1, e_nb2, e_bor1, e_bor2, e_bor3, e_bor4, e_arg1, e_arg2, e_arg3, e_arg4, e_putd, e_puto, e_toD1, e_toD2, e_allD0, e_allD1, e_allD2, e_gTupl, e_gList, e_tgnm, e_tgtp, e_tg0, e_tg1, e_sq1, e_sq2, e_sq3, e_sq4, e_sq5, e_qv2, e_qv3, e_qv4, e_qv5, e_data1, e_data2, e_data3, e_okI, e_okB, e_i2, e_sub, e_mul, e_mod, e_div, e_pow, e_lt, e_le, e_gt, e_ge, e_neg, e_addI, e_addS, e_addT, e_addL1, e_addL2, e_addL3, e_addL4, e_addL5, e_addL6, e_addL7, e_addL8, e_addL9, e_eq, e_ne, e_in, e_notIn, e_inT, e_inT2, e_inL1, e_inL2, e_inL3, e_is, e_isNot, e_isN1, e_isN2, e_isN3, e_isN4, e_isN5, e_isN6, e_isN7, e_ixT, e_ixL, e_ixO, e_ixB, e_ixSc, e_lenT, e_lenL, e_lenO, e_lenB, e_lenSc, e_lenS, e_tupT, e_tupL, e_tupO, e_tupB, e_lisT, e_lisL, e_lisO, e_lisB, e_min2, e_max2, e_any, e_all, e_sum, e_sorted, e_rev, e_sl, e_oN, e_isi, e_lc, e_wipe0, e_wipe1, e_iA, e_iAb, e_gAq1, e_gAq2, e_gAq3, e_gAqb1, e_gAqb2, e_gAqb3, e_gAqb4, e_no, e_cCh, e_cChI, e_aug, e_decT, e_decF, e_cDispS, e_cDT, e_cDK, e_cDisp1, e_storeA, e_stR1, e_stR2, e_stR3, e_sd1, e_keyD1, e_keyD2, e_keyTD, e_intsD, e_intsD0, e_borT, e_borT2, e_borK, e_borK2, e_argT, e_argT2, e_argK, e_argK2, e_nbT, e_nbK, e_putT, e_putK, e_gAt1, e_gAt2, e_gAt3, e_gAt4, e_gGetDK, e_gGetDT, e_gIxD, e_gInD, e_gNotInD, e_cGet1, e_cGet2, e_dk1, e_dk2, e_dk3, e_dk4, e_dt1, e_dt2, e_del, atI_zero, e_at1, e_at2, e_at3, e_at4, e_at5, e_at6, e_at7, e_at8, e_at9, e_atm, e_V, e_retV, e_unp, e_app, e_store, e_fzE, oS, rsO_some, Rs.bind_ok, Rs.bind_no, Rs.out_ok, Out.then_nx, Out.then_rt, Out.then_ct, Out.then_bk, fin_rt, fin_nx, List.getElem?_cons_zero, List.getElem?_cons_succ, List.set_cons_succ, List.set_cons_zero, List.length_cons, List.length_nil, Nat.reduceAdd, Nat.reduceLT, Nat.reduceLeDiff, Nat.reduceEqDiff, if_true, if_false, Bool.false_eq_true, Bool.not_true, Bool.not_false, and_self, true_and, and_true, List.map_cons, List.map_nil, Option.map_some, sh_int, sh_bool, sh_none, sh_tup, sh_lst, eqv_int, reduceIte, Option.bind_some, Option.bind_none, kitB_ll, kitB_lt, kitB_tt, kitB_tl, kitB_ii, tyD_list, tyD_int, Bool.true_and, Bool.false_and, Bool.and_true, Bool.and_false, Bool.or_true, Bool.true_or, Bool.false_or, Bool.or_false, Bool.and_self, Bool.or_self, e_cAK, List.append_nil, List.nil_append, List.cons_append, e_andB, e_orB, e_andR, e_orR, tyD_tuple, eqv_bool, eqv_none, tyD_bool, tyD_str, tyD_none, kitB_bb, kitB_nb, kitB_bi, kitB_ib, kitB_nl, kitB_nt, beq_self_eq_true, Int.reduceEq, decide_true, decide_false, hx, hln, hnL, md, hm']
      try rfl
    rcases k3 with z | z | z
    · exact ⟨reg, none, Ls, e12, h0, up, fin none (by rw [z]; rfl)⟩
    · exact ⟨reg, some (1 + (d4 : Int)), Ls, e12, h0, up, fin (some (1 + (d4 : Int))) (by rw [z]; rfl)⟩
    · exact ⟨reg, some (Ls.length : Int), Ls, e12, h0, up, fin (some (Ls.length : Int)) (by rw [z]; rfl)⟩
  by_cases c5 : d0 = 5
  · subst c5
    have md : gMod (.d (.int ((reg : Int) + (d4 : Int)))) (.d (.int 8)) = .ok (.d (.int (((reg + d4) % 8 : Nat) : Int))) := e_modN (reg + d4) 8 (by omega)
    refine ⟨1 + (reg + d4) % 8, m, Ls, e12, by omega, up, ?_⟩
    have e1' : ((1 + (reg + d4) % 8 : Nat) : Int) = 1 + (((reg + d4) % 8 : Nat) : Int) := by omega
    rw [e1']
    generalize (((reg + d4) % 8 : Nat) : Int) = RR at *
    generalize optI m = MM at *
    generalize tupD odd = OO at *
    generalize Ls.map lstL = LL at *
    show kp_10 [e0, e1, e2, some (.d (.int (reg : Int))), e4, some (.ol [.int 5, .int (d1 : Int), .int (d2 : Int), .int (d3 : Int), .int (d4 : Int)]), some (.d MM), e7, some (.ol LL), some (.d (.int (k : Int))), e10, some (.d OO), e12, e13, e14] = _
    unfold kp_10
    simp only [e_nil, e_seq, e_fz, e_bk, e_ct, e_ret, e_retN, e_drop, e_set, e_if, e_for, e_cC, e_c2, e_c1, e_cA, e_aN, e_aC, e_cB, e_asB, e_bNot, e_bAnd, e_bOr, e_vAnd, e_vOr, e_vNot, e_vIf, e_bYes, e_iL, e_iT, e_iLb, e_iR, e_gL1, e_gL2, e_gL3, e_gT, e_gLb1, e_gLb2, e_gLb3, e_gLb4, e_nb1, e_nb2, e_bor1, e_bor2, e_bor3, e_bor4, e_arg1, e_arg2, e_arg3, e_arg4, e_putd, e_puto, e_toD1, e_toD2, e_allD0, e_allD1, e_allD2, e_gTupl, e_gList, e_tgnm, e_tgtp, e_tg0, e_tg1, e_sq1, e_sq2, e_sq3, e_sq4, e_sq5, e_qv2, e_qv3, e_qv4, e_qv5, e_data1, e_data2, e_data3, e_okI, e_okB, e_i2, e_sub, e_mul, e_mod, e_div, e_pow, e_lt, e_le, e_gt, e_ge, e_neg, e_addI, e_addS, e_addT, e_addL1, e_addL2, e_addL3, e_addL4, e_addL5, e_addL6, e_addL7, e_addL8, e_addL9, e_eq, e_ne, e_in, e_notIn, e_inT, e_inT2, e_inL1, e_inL2, e_inL3, e_is, e_isNot, e_isN1, e_isN2, e_isN3, e_isN4, e_isN5, e_isN6, e_isN7, e_ixT, e_ixL, e_ixO, e_ixB, e_ixSc, e_lenT, e_lenL, e_lenO, e_lenB, e_lenSc, e_lenS, e_tupT, e_tupL, e_tupO, e_tupB, e_lisT, e_lisL, e_lisO, e_lisB, e_min2, e_max2, e_any, e_all, e_sum, e_sorted, e_rev, e_sl, e_oN, e_isi, e_lc, e_wipe0, e_wipe1, e_iA, e_iAb, e_gAq1, e_gAq2, e_gAq3, e_gAqb1, e_gAqb2, e_gAqb3, e_gAqb4, e_no, e_cCh, e_cChI, e_aug, e_decT, e_decF, e_cDispS, e_cDT, e_cDK, e_cDisp1, e_storeA, e_stR1, e_stR2, e_stR3, e_sd1, e_keyD1, e_keyD2, e_keyTD, e_intsD, e_intsD0, e_borT, e_borT2, e_borK, e_borK2, e_argT, e_argT2, e_argK, e_argK2, e_nbT, e_nbK, e_putT, e_putK, e_gAt1, e_gAt2, e_gAt3, e_gAt4, e_gGetDK, e_gGetDT, e_gIxD, e_gInD, e_gNotInD, e_cGet1, e_cGet2, e_dk1, e_dk2, e_dk3, e_dk4, e_dt1, e_dt2, e_del, atI_zero, e_at1, e_at2, e_at3, e_at4, e_at5, e_at6, e_at7, e_at8, e_at9, e_atm, e_V, e_retV, e_unp, e_app, e_store, e_fzE, oS, rsO_some, Rs.bind_ok, Rs.bind_no, Rs.out_ok, Out.then_nx, Out.then_rt, Out.then_ct, Out.then_bk, fin_rt, fin_nx, List.getElem?_cons_zero, List.getElem?_cons_succ, List.set_cons_succ, List.set_cons_zero, List.length_cons, List.length_nil, Nat.reduceAdd, Nat.reduceLT, Nat.reduceLeDiff, Nat.reduceEqDiff, if_true, if_false, Bool.false_eq_true, Bool.not_true, Bool.not_false, and_self, true_and, and_true, List.map_cons, List.map_nil, Option.map_some, sh_int, sh_bool, sh_none, sh_tup, sh_lst, eqv_int, reduceIte, Option.bind_some, Option.bind_none, kitB_ll, kitB_lt, kitB_tt, kitB_tl, kitB_ii, tyD_list, tyD_int, Bool.true_and, Bool.false_and, Bool.and_true, Bool.and_false, Bool.or_true, Bool.true_or, Bool.false_or, Bool.or_false, Bool.and_self, Bool.or_self, e_cAK, List.append_nil, List.nil_append, List.cons_append, e_andB, e_orB, e_andR, e_orR, tyD_tuple, eqv_bool, eqv_none, tyD_bool, tyD_str, tyD_none, kitB_bb, kitB_nb, kitB_bi, kitB_ib, kitB_nl, kitB_nt, beq_self_eq_true, Int.reduceEq, decide_true, decide_false, hx, hln, hnL, md]
    try rfl
  by_cases c6 : d0 = 6
  · subst c6
    have s1 := sto k lk.reverse
    have hqv : (RV.d (lstL lk)).qv = some (lk.map tupD) := rfl
    have hL6 : Lvs us (Ls.set k lk.reverse) 300 601 := okS k _ (by simp; omega) (fun h hh => hL.cf lk mk h (List.mem_reverse.mp hh))
    have hlen : ((Ls.map lstL).set k (.list (lk.reverse.map tupD))).length = Ls.length := by rw [List.length_set]; exact hnL
    refine ⟨reg, m.map (· + 1), Ls.set k lk.reverse ++ [[]], e12, h0, snoc _ hL6 (by simp) (fun h hh => by cases hh), ?_⟩
    rw [List.map_append, ← s1]
    rw [List.map_reverse] at hlen ⊢
    have e1' : ([[]] : List (List (List Int))).map lstL = [.list []] := rfl
    rw [e1']
    cases m with
    | none =>
      generalize tupD odd = OO at *
      generalize lstL lk = LK at *
      generalize Ls.map lstL = LL at *
      show kp_10 [e0, e1, e2, some (.d (.int (reg : Int))), e4, some (.ol [.int 6, .int (d1 : Int), .int (d2 : Int), .int (d3 : Int), .int (d4 : Int)]), some (.d .none), e7, some (.ol LL), some (.d (.int (k : Int))), e10, some (.d OO), e12, e13, e14] = _
      unfold kp_10
      simp only [e_nil, e_seq, e_fz, e_bk, e_ct, e_ret, e_retN, e_drop, e_set, e_if, e_for, e_cC, e_c2, e_c1, e_cA, e_aN, e_aC, e_cB, e_asB, e_bNot, e_bAnd, e_bOr, e_vAnd, e_vOr, e_vNot, e_vIf, e_bYes, e_iL, e_iT, e_iLb, e_iR, e_gL1, e_gL2, e_gL3, e_gT, e_gLb1, e_gLb2, e_gLb3, e_gLb4, e_nb1, e_nb2, e_bor1, e_bor2, e_bor3, e_bor4, e_arg1, e_arg2, e_arg3, e_arg4, e_putd, e_puto, e_toD1, e_toD2, e_allD0, e_allD1, e_allD2, e_gTupl, e_gList, e_tgnm, e_tgtp, e_tg0, e_tg1, e_sq1, e_sq2, e_sq3, e_sq4, e_sq5, e_qv2, e_qv3, e_qv4, e_qv5, e_data1, e_data2, e_data3, e_okI, e_okB, e_i2, e_sub, e_mul, e_mod, e_div, e_pow, e_lt, e_le, e_gt, e_ge, e_neg, e_addI, e_addS, e_addT, e_addL1, e_addL2, e_addL3, e_addL4, e_addL5, e_addL6, e_addL7, e_addL8, e_addL9, e_eq, e_ne, e_in, e_notIn, e_inT, e_inT2, e_inL1, e_inL2, e_inL3, e_is, e_isNot, e_isN1, e_isN2, e_isN3, e_isN4, e_isN5, e_isN6, e_isN7, e_ixT, e_ixL, e_ixO, e_ixB, e_ixSc, e_lenT, e_lenL, e_lenO, e_lenB, e_lenSc, e_lenS, e_tupT, e_tupL, e_tupO, e_tupB, e_lisT, e_lisL, e_lisO, e_lisB, e_min2, e_max2, e_any, e_all, e_sum, e_sorted, e_rev, e_sl, e_oN, e_isi, e_lc, e_wipe0, e_wipe1, e_iA, e_iAb, e_gAq1, e_gAq2, e_gAq3, e_gAqb1, e_gAqb2, e_gAqb3, e_gAqb4, e_no, e_cCh, e_cChI, e_aug, e_decT, e_decF, e_cDispS, e_cDT, e_cDK, e_cDisp1, e_storeA, e_stR1, e_stR2, e_stR3, e_sd1, e_keyD1, e_keyD2, e_keyTD, e_intsD, e_intsD0, e_borT, e_borT2, e_borK, e_borK2, e_argT, e_argT2, e_argK, e_argK2, e_nbT, e_nbK, e_putT, e_putK, e_gAt1, e_gAt2, e_gAt3, e_gAt4, e_gGetDK, e_gGetDT, e_gIxD, e_gInD, e_gNotInD, e_cGet1, e_cGet2, e_dk1, e_dk2, e_dk3, e_dk4, e_dt1, e_dt2, e_del, atI_zero, e_at1, e_at2, e_at3, e_at4, e_at5, e_at6, e_at7, e_at8, e_at9, e_atm, e_V, e_retV, e_unp, e_app, e_store, e_fzE, oS, rsO_some, Rs.bind_ok, Rs.bind_no, Rs.out_ok, Out.then_nx, Out.then_rt, Out.then_ct, Out.then_bk, fin_rt, fin_nx, List.getElem?_cons_zero, List.getElem?_cons_succ, List.set_cons_succ, List.set_cons_zero, List.length_cons, List.length_nil, Nat.reduceAdd, Nat.reduceLT, Nat.reduceLeDiff, Nat.reduceEqDiff, if_true, if_false, Bool.false_eq_true, Bool.not_true, Bool.not_false, and_self, true_and, and_true, List.map_cons, List.map_nil, Option.map_some, sh_int, sh_bool, sh_none, sh_tup, sh_lst, eqv_int, reduceIte, Option.bind_some, Option.bind_none, kitB_ll, kitB_lt, kitB_tt, kitB_tl, kitB_ii, tyD_list, tyD_int, Bool.true_and, Bool.false_and, Bool.and_true, Bool.and_false, Bool.or_true, Bool.true_or, Bool.false_or, Bool.or_false, Bool.and_self, Bool.or_self, e_cAK, List.append_nil, List.nil_append, List.cons_append, e_andB, e_orB, e_andR, e_orR, tyD_tuple, eqv_bool, eqv_none, tyD_bool, tyD_str, tyD_none, kitB_bb, kitB_nb, kitB_bi, kitB_ib, kitB_nl, kitB_nt, beq_self_eq_true, Int.reduceEq, decide_true, decide_false, hx, hln, hnL, hqv, ixn, hlen, if_pos (show Ls.length + 1 ≤ 1000000 by omega), if_pos (show Ls.length ≤ 999999 by omega)]
      try rfl
    | some n =>
      generalize tupD odd = OO at *
      generalize lstL lk = LK at *
      generalize Ls.map lstL = LL at *
      show kp_10 [e0, e1, e2, some (.d (.int (reg : Int))), e4, some (.ol [.int 6, .int (d1 : Int), .int (d2 : Int), .int (d3 : Int), .int (d4 : Int)]), some (.d (.int n)), e7, some (.ol LL), some (.d (.int (k : Int))), e10, some (.d OO), e12, e13, e14] = _
      unfold kp_10
      simp only [e_nil, e_seq, e_fz, e_bk, e_ct, e_ret, e_retN, e_drop, e_set, e_if, e_for, e_cC, e_c2, e_c1, e_cA, e_aN, e_aC, e_cB, e_asB, e_bNot, e_bAnd, e_bOr, e_vAnd, e_vOr, e_vNot, e_vIf, e_bYes, e_iL, e_iT, e_iLb, e_iR, e_gL1, e_gL2, e_gL3, e_gT, e_gLb1, e_gLb2, e_gLb3, e_gLb4, e_nb1, e_nb2, e_bor1, e_bor2, e_bor3, e_bor4, e_arg1, e_arg2, e_arg3, e_arg4, e_putd, e_puto, e_toD1, e_toD2, e_allD0, e_allD1, e_allD2, e_gTupl, e_gList, e_tgnm, e_tgtp, e_tg0, e_tg1, e_sq1, e_sq2, e_sq3, e_sq4, e_sq5, e_qv2, e_qv3, e_qv4, e_qv5, e_data1, e_data2, e_data3, e_okI, e_okB, e_i2, e_sub, e_mul, e_mod, e_div, e_pow, e_lt, e_le, e_gt, e_ge, e_neg, e_addI, e_addS, e_addT, e_addL1, e_addL2, e_addL3, e_addL4, e_addL5, e_addL6, e_addL7, e_addL8, e_addL9, e_eq, e_ne, e_in, e_notIn, e_inT, e_inT2, e_inL1, e_inL2, e_inL3, e_is, e_isNot, e_isN1, e_isN2, e_isN3, e_isN4, e_isN5, e_isN6, e_isN7, e_ixT, e_ixL, e_ixO, e_ixB, e_ixSc, e_lenT, e_lenL, e_lenO, e_lenB, e_lenSc, e_lenS, e_tupT, e_tupL, e_tupO, e_tupB, e_lisT, e_lisL, e_lisO, e_lisB, e_min2, e_max2, e_any, e_all, e_sum, e_sorted, e_rev, e_sl, e_oN, e_isi, e_lc, e_wipe0, e_wipe1, e_iA, e_iAb, e_gAq1, e_gAq2, e_gAq3, e_gAqb1, e_gAqb2, e_gAqb3, e_gAqb4, e_no, e_cCh, e_cChI, e_aug, e_decT, e_decF, e_cDispS, e_cDT, e_cDK, e_cDisp1, e_storeA, e_stR1, e_stR2, e_stR3, e_sd1, e_keyD1, e_keyD2, e_keyTD, e_intsD, e_intsD0, e_borT, e_borT2, e_borK, e_borK2, e_argT, e_argT2, e_argK, e_argK2, e_nbT, e_nbK, e_putT, e_putK, e_gAt1, e_gAt2, e_gAt3, e_gAt4, e_gGetDK, e_gGetDT, e_gIxD, e_gInD, e_gNotInD, e_cGet1, e_cGet2, e_dk1, e_dk2, e_dk3, e_dk4, e_dt1, e_dt2, e_del, atI_zero, e_at1, e_at2, e_at3, e_at4, e_at5, e_at6, e_at7, e_at8, e_at9, e_atm, e_V, e_retV, e_unp, e_app, e_store, e_fzE, oS, rsO_some, Rs.bind_ok, Rs.bind_no, Rs.out_ok, Out.then_nx, Out.then_rt, Out.then_ct, Out.then_bk, fin_rt, fin_nx, List.getElem?_cons_zero, List.getElem?_cons_succ, List.set_cons_succ, List.set_cons_zero, List.length_cons, List.length_nil, Nat.reduceAdd, Nat.reduceLT, Nat.reduceLeDiff, Nat.reduceEqDiff, if_true, if_false, Bool.false_eq_true, Bool.not_true, Bool.not_false, and_self, true_and, and_true, List.map_cons, List.map_nil, Option.map_some, sh_int, sh_bool, sh_none, sh_tup, sh_lst, eqv_int, reduceIte, Option.bind_some, Option.bind_none, kitB_ll, kitB_lt, kitB_tt, kitB_tl, kitB_ii, tyD_list, tyD_int, Bool.true_and, Bool.false_and, Bool.and_true, Bool.and_false, Bool.or_true, Bool.true_or, Bool.false_or, Bool.or_false, Bool.and_self, Bool.or_self, e_cAK, List.append_nil, List.nil_append, List.cons_append, e_andB, e_orB, e_andR, e_orR, tyD_tuple, eqv_bool, eqv_none, tyD_bool, tyD_str, tyD_none, kitB_bb, kitB_nb, kitB_bi, kitB_ib, kitB_nl, kitB_nt, beq_self_eq_true, Int.reduceEq, decide_true, decide_false, hx, hln, hnL, hqv, ixn, hlen, if_pos (show Ls.length + 1 ≤ 1000000 by omega), if_pos (show Ls.length ≤ 999999 by omega)]
      try rfl
  by_cases c7 : d0 = 7
  · subst c7
    by_cases cl : 1 < Ls.length
    · have dg : decide ((Ls.length : Int) > 1) = true := decide_eq_true (by omega)
      obtain ⟨l0, hl0⟩ : ∃ l, l = Ls.getD 0 [] := ⟨_, rfl⟩
      obtain ⟨l1, hl1⟩ : ∃ l, l = Ls.getD 1 [] := ⟨_, rfl⟩
      have x0 : gIx (.bl (Ls.map lstL)) (.d (.int 0)) = .ok (.d (lstL l0)) := by rw [hl0]; exact lst_at (k := 0) (by omega)
      have x1 : gIx (.bl (Ls.map lstL)) (.d (.int 1)) = .ok (.d (lstL l1)) := by rw [hl1]; exact lst_at (k := 1) (by omega)
      have m0 : l0 ∈ Ls := by rw [hl0]; exact mem 0 (by omega)
      have m1 : l1 ∈ Ls := by rw [hl1]; exact mem 1 (by omega)
      have n0 := hL.row l0 m0
      have n1 := hL.row l1 m1
      have ix0 : ixN Ls.length 0 = some 0 := ixN_nat (n := Ls.length) (i := 0) (by omega)
      have s1 := sto 0 (l0 ++ l1)
      rw [List.map_append] at s1
      have ad : gAdd (.d (lstL l0)) (.d (lstL l1)) = .ok (.ol (l0.map tupD ++ l1.map tupD)) := by
        unfold lstL
        rw [e_addL9, if_pos (by simp; omega)]
      refine ⟨reg, m, Ls.set 0 (l0 ++ l1), e12, h0, more (okS 0 _ (by simp; omega) (fun h hh => ?_)), ?_⟩
      · rcases List.mem_append.mp hh with z | z
        · exact hL.cf l0 m0 h z
        · exact hL.cf l1 m1 h z
      · rw [← s1]
        generalize lstL l0 = L0' at *
        generalize lstL l1 = L1' at *
        generalize optI m = MM at *
        generalize tupD odd = OO at *
        generalize Ls.map lstL = LL at *
        show kp_10 [e0, e1, e2, some (.d (.int (reg : Int))), e4, some (.ol [.int 7, .int (d1 : Int), .int (d2 : Int), .int (d3 : Int), .int (d4 : Int)]), some (.d MM), e7, some (.ol LL), some (.d (.int (k : Int))), e10, some (.d OO), e12, e13, e14] = _
        unfold kp_10
        simp only [e_nil, e_seq, e_fz, e_bk, e_ct, e_ret, e_retN, e_drop, e_set, e_if, e_for, e_cC, e_c2, e_c1, e_cA, e_aN, e_aC, e_cB, e_asB, e_bNot, e_bAnd, e_bOr, e_vAnd, e_vOr, e_vNot, e_vIf, e_bYes, e_iL, e_iT, e_iLb, e_iR, e_gL1, e_gL2, e_gL3, e_gT, e_gLb1, e_gLb2, e_gLb3, e_gLb4, e_nb1, e_nb2, e_bor1, e_bor2, e_bor3, e_bor4, e_arg1, e_arg2, e_arg3, e_arg4, e_putd, e_puto, e_toD1, e_toD2, e_allD0, e_allD1, e_allD2, e_gTupl, e_gList, e_tgnm, e_tgtp, e_tg0, e_tg1, e_sq1, e_sq2, e_sq3, e_sq4, e_sq5, e_qv2, e_qv3, e_qv4, e_qv5, e_data1, e_data2, e_data3, e_okI, e_okB, e_i2, e_sub, e_mul, e_mod, e_div, e_pow, e_lt, e_le, e_gt, e_ge, e_neg, e_addI, e_addS, e_addT, e_addL1, e_addL2, e_addL3, e_addL4, e_addL5, e_addL6, e_addL7, e_addL8, e_addL9, e_eq, e_ne, e_in, e_notIn, e_inT, e_inT2, e_inL1, e_inL2, e_inL3, e_is, e_isNot, e_isN1, e_isN2, e_isN3, e_isN4, e_isN5, e_isN6, e_isN7, e_ixT, e_ixL, e_ixO, e_ixB, e_ixSc, e_lenT, e_lenL, e_lenO, e_lenB, e_lenSc, e_lenS, e_tupT, e_tupL, e_tupO, e_tupB, e_lisT, e_lisL, e_lisO, e_lisB, e_min2, e_max2, e_any, e_all, e_sum, e_sorted, e_rev, e_sl, e_oN, e_isi, e_lc, e_wipe0, e_wipe1, e_iA, e_iAb, e_gAq1, e_gAq2, e_gAq3, e_gAqb1, e_gAqb2, e_gAqb3, e_gAqb4, e_no, e_cCh, e_cChI, e_aug, e_decT, e_decF, e_cDispS, e_cDT, e_cDK, e_cDisp1, e_storeA, e_stR1, e_stR2, e_stR3, e_sd1, e_keyD1, e_keyD2, e_keyTD, e_intsD, e_intsD0, e_borT, e_borT2, e_borK, e_borK2, e_argT, e_argT2, e_argK, e_argK2, e_nbT, e_nbK, e_putT, e_putK, e_gAt1, e_gAt2, e_gAt3, e_gAt4, e_gGetDK, e_gGetDT, e_gIxD, e_gInD, e_gNotInD, e_cGet1, e_cGet2, e_dk1, e_dk2, e_dk3, e_dk4, e_dt1, e_dt2, e_del, atI_zero, e_at1, e_at2, e_at3, e_at4, e_at5, e_at6, e_at7, e_at8, e_at9, e_atm, e_V, e_retV, e_unp, e_app, e_store, e_fzE, oS, rsO_some, Rs.bind_ok, Rs.bind_no, Rs.out_ok, Out.then_nx, Out.then_rt, Out.then_ct, Out.then_bk, fin_rt, fin_nx, List.getElem?_cons_zero, List.getElem?_cons_succ, List.set_cons_succ, List.set_cons_zero, List.length_cons, List.length_nil, Nat.reduceAdd, Nat.reduceLT, Nat.reduceLeDiff, Nat.reduceEqDiff, if_true, if_false, Bool.false_eq_true, Bool.not_true, Bool.not_false, and_self, true_and, and_true, List.map_cons, List.map_nil, Option.map_some, sh_int, sh_bool, sh_none, sh_tup, sh_lst, eqv_int, reduceIte, Option.bind_some, Option.bind_none, kitB_ll, kitB_lt, kitB_tt, kitB_tl, kitB_ii, tyD_list, tyD_int, Bool.true_and, Bool.false_and, Bool.and_true, Bool.and_false, Bool.or_true, Bool.true_or, Bool.false_or, Bool.or_false, Bool.and_self, Bool.or_self, e_cAK, List.append_nil, List.nil_append, List.cons_append, e_andB, e_orB, e_andR, e_orR, tyD_tuple, eqv_bool, eqv_none, tyD_bool, tyD_str, tyD_none, kitB_bb, kitB_nb, kitB_bi, kitB_ib, kitB_nl, kitB_nt, beq_self_eq_true, Int.reduceEq, decide_true, decide_false, hx, hln, hnL, dg, x0, x1, ad, ix0]
        try rfl
    · have dg : decide ((Ls.length : Int) > 1) = false := decide_eq_false (by omega)
      refine ⟨reg, m, Ls, e12, h0, up, ?_⟩
      generalize optI m = MM at *
      generalize tupD odd = OO at *
      generalize Ls.map lstL = LL at *
      show kp_10 [e0, e1, e2, some (.d (.int (reg : Int))), e4, some (.ol [.int 7, .int (d1 : Int), .int (d2 : Int), .int (d3 : Int), .int (d4 : Int)]), some (.d MM), e7, some (.ol LL), some (.d (.int (k : Int))), e10, some (.d OO), e12, e13, e14] = _
      unfold kp_10
      simp only [e_nil, e_seq, e_fz, e_bk, e_ct, e_ret, e_retN, e_drop, e_set, e_if, e_for, e_cC, e_c2, e_c1, e_cA, e_aN, e_aC, e_cB, e_asB, e_bNot, e_bAnd, e_bOr, e_vAnd, e_vOr, e_vNot, e_vIf, e_bYes, e_iL, e_iT, e_iLb, e_iR, e_gL1, e_gL2, e_gL3, e_gT, e_gLb1, e_gLb2, e_gLb3, e_gLb4, e_nb1, e_nb2, e_bor1, e_bor2, e_bor3, e_bor4, e_arg1, e_arg2, e_arg3, e_arg4, e_putd, e_puto, e_toD1, e_toD2, e_allD0, e_allD1, e_allD2, e_gTupl, e_gList, e_tgnm, e_tgtp, e_tg0, e_tg1, e_sq1, e_sq2, e_sq3, e_sq4, e_sq5, e_qv2, e_qv3, e_qv4, e_qv5, e_data1, e_data2, e_data3, e_okI, e_okB, e_i2, e_sub, e_mul, e_mod, e_div, e_pow, e_lt, e_le, e_gt, e_ge, e_neg, e_addI, e_addS, e_addT, e_addL1, e_addL2, e_addL3, e_addL4, e_addL5, e_addL6, e_addL7, e_addL8, e_addL9, e_eq, e_ne, e_in, e_notIn, e_inT, e_inT2, e_inL1, e_inL2, e_inL3, e_is, e_isNot, e_isN1, e_isN2, e_isN3, e_isN4, e_isN5, e_isN6, e_isN7, e_ixT, e_ixL, e_ixO, e_ixB, e_ixSc, e_lenT, e_lenL, e_lenO, e_lenB, e_lenSc, e_lenS, e_tupT, e_tupL, e_tupO, e_tupB, e_lisT, e_lisL, e_lisO, e_lisB, e_min2, e_max2, e_any, e_all, e_sum, e_sorted, e_rev, e_sl, e_oN, e_isi, e_lc, e_wipe0, e_wipe1, e_iA, e_iAb, e_gAq1, e_gAq2, e_gAq3, e_gAqb1, e_gAqb2, e_gAqb3, e_gAqb4, e_no, e_cCh, e_cChI, e_aug, e_decT, e_decF, e_cDispS, e_cDT, e_cDK, e_cDisp1, e_storeA, e_stR1, e_stR2, e_stR3, e_sd1, e_keyD1, e_keyD2, e_keyTD, e_intsD, e_intsD0, e_borT, e_borT2, e_borK, e_borK2, e_argT, e_argT2, e_argK, e_argK2, e_nbT, e_nbK, e_putT, e_putK, e_gAt1, e_gAt2, e_gAt3, e_gAt4, e_gGetDK, e_gGetDT, e_gIxD, e_gInD, e_gNotInD, e_cGet1, e_cGet2, e_dk1, e_dk2, e_dk3, e_dk4, e_dt1, e_dt2, e_del, atI_zero, e_at1, e_at2, e_at3, e_at4, e_at5, e_at6, e_at7, e_at8, e_at9, e_atm, e_V, e_retV, e_unp, e_app, e_store, e_fzE, oS, rsO_some, Rs.bind_ok, Rs.bind_no, Rs.out_ok, Out.then_nx, Out.then_rt, Out.then_ct, Out.then_bk, fin_rt, fin_nx, List.getElem?_cons_zero, List.getElem?_cons_succ, List.set_cons_succ, List.set_cons_zero, List.length_cons, List.length_nil, Nat.reduceAdd, Nat.reduceLT, Nat.reduceLeDiff, Nat.reduceEqDiff, if_true, if_false, Bool.false_eq_true, Bool.not_true, Bool.not_false, and_self, true_and, and_true, List.map_cons, List.map_nil, Option.map_some, sh_int, sh_bool, sh_none, sh_tup, sh_lst, eqv_int, reduceIte, Option.bind_some, Option.bind_none, kitB_ll, kitB_lt, kitB_tt, kitB_tl, kitB_ii, tyD_list, tyD_int, Bool.true_and, Bool.false_and, Bool.and_true, Bool.and_false, Bool.or_true, Bool.true_or, Bool.false_or, Bool.or_false, Bool.and_self, Bool.or_self, e_cAK, List.append_nil, List.nil_append, List.cons_append, e_andB, e_orB, e_andR, e_orR, tyD_tuple, eqv_bool, eqv_none, tyD_bool, tyD_str, tyD_none, kitB_bb, kitB_nb, kitB_bi, kitB_ib, kitB_nl, kitB_nt, beq_self_eq_true, Int.reduceEq, decide_true, decide_false, hx, hln, hnL, dg]
      try rfl
  obtain rfl : d0 = 8 := by omega
  refine ⟨reg, m, Ls, e12, h0, up, ?_⟩
  generalize optI m = MM at *
  generalize tupD odd = OO at *
  generalize Ls.map lstL = LL at *
  show kp_10 [e0, e1, e2, some (.d (.int (reg : Int))), e4, some (.ol [.int 8, .int (d1 : Int), .int (d2 : Int), .int (d3 : Int), .int (d4 : Int)]), some (.d MM), e7, some (.ol LL), some (.d (.int (k : Int))), e10, some (.d OO), e12, e13, e14] = _
  unfold kp_10
  simp only [e_nil, e_seq, e_fz, e_bk, e_ct, e_ret, e_retN, e_drop, e_set, e_if, e_for, e_cC, e_c2, e_c1, e_cA, e_aN, e_aC, e_cB, e_asB, e_bNot, e_bAnd, e_bOr, e_vAnd, e_vOr, e_vNot, e_vIf, e_bYes, e_iL, e_iT, e_iLb, e_iR, e_gL1, e_gL2, e_gL3, e_gT, e_gLb1, e_gLb2, e_gLb3, e_gLb4, e_nb1, e_nb2, e_bor1, e_bor2, e_bor3, e_bor4, e_arg1, e_arg2, e_arg3, e_arg4, e_putd, e_puto, e_toD1, e_toD2, e_allD0, e_allD1, e_allD2, e_gTupl, e_gList, e_tgnm, e_tgtp, e_tg0, e_tg1, e_sq1, e_sq2, e_sq3, e_sq4, e_sq5, e_qv2, e_qv3, e_qv4, e_qv5, e_data1, e_data2, e_data3, e_okI, e_okB, e_i2, e_sub, e_mul, e_mod, e_div, e_pow, e_lt, e_le, e_gt, e_ge, e_neg, e_addI, e_addS, e_addT, e_addL1, e_addL2, e_addL3, e_addL4, e_addL5, e_addL6, e_addL7, e_addL8, e_addL9, e_eq, e_ne, e_in, e_notIn, e_inT, e_inT2, e_inL1, e_inL2, e_inL3, e_is, e_isNot, e_isN1, e_isN2, e_isN3, e_isN4, e_isN5, e_isN6, e_isN7, e_ixT, e_ixL, e_ixO, e_ixB, e_ixSc, e_lenT, e_lenL, e_lenO, e_lenB, e_lenSc, e_lenS, e_tupT, e_tupL, e_tupO, e_tupB, e_lisT, e_lisL, e_lisO, e_lisB, e_min2, e_max2, e_any, e_all, e_sum, e_sorted, e_rev, e_sl, e_oN, e_isi, e_lc, e_wipe0, e_wipe1, e_iA, e_iAb, e_gAq1, e_gAq2, e_gAq3, e_gAqb1, e_gAqb2, e_gAqb3, e_gAqb4, e_no, e_cCh, e_cChI, e_aug, e_decT, e_decF, e_cDispS, e_cDT, e_cDK, e_cDisp1, e_storeA, e_stR1, e_stR2, e_stR3, e_sd1, e_keyD1, e_keyD2, e_keyTD, e_intsD, e_intsD0, e_borT, e_borT2, e_borK, e_borK2, e_argT, e_argT2, e_argK, e_argK2, e_nbT, e_nbK, e_putT, e_putK, e_gAt1, e_gAt2, e_gAt3, e_gAt4, e_gGetDK, e_gGetDT, e_gIxD, e_gInD, e_gNotInD, e_cGet1, e_cGet2, e_dk1, e_dk2, e_dk3, e_dk4, e_dt1, e_dt2, e_del, atI_zero, e_at1, e_at2, e_at3, e_at4, e_at5, e_at6, e_at7, e_at8, e_at9, e_atm, e_V, e_retV, e_unp, e_app, e_store, e_fzE, oS, rsO_some, Rs.bind_ok, Rs.bind_no, Rs.out_ok, Out.then_nx, Out.then_rt, Out.then_ct, Out.then_bk, fin_rt, fin_nx, List.getElem?_cons_zero, List.getElem?_cons_succ, List.set_cons_succ, List.set_cons_zero, List.length_cons, List.length_nil, Nat.reduceAdd, Nat.reduceLT, Nat.reduceLeDiff, Nat.reduceEqDiff, if_true, if_false, Bool.false_eq_true, Bool.not_true, Bool.not_false, and_self, true_and, and_true, List.map_cons, List.map_nil, Option.map_some, sh_int, sh_bool, sh_none, sh_tup, sh_lst, eqv_int, reduceIte, Option.bind_some, Option.bind_none, kitB_ll, kitB_lt, kitB_tt, kitB_tl, kitB_ii, tyD_list, tyD_int, Bool.true_and, Bool.false_and, Bool.and_true, Bool.and_false, Bool.or_true, Bool.true_or, Bool.false_or, Bool.or_false, Bool.and_self, Bool.or_self, e_cAK, List.append_nil, List.nil_append, List.cons_append, e_andB, e_orB, e_andR, e_orR, tyD_tuple, eqv_bool, eqv_none, tyD_bool, tyD_str, tyD_none, kitB_bb, kitB_nb, kitB_bi, kitB_ib, kitB_nl, kitB_nt, beq_self_eq_true, Int.reduceEq, decide_true, decide_false, hx, hln, hnL]
  try rfl
/-! ### the paper of a law, made -/
theorem pow6_at {k : Nat} (h : k < 6) : atI [PyData.int 1, .int 2, .int 4, .int 8, .int 16, .int 32] (k : Int) = some (.int ((2 ^ k : Nat) : Int)) := by
  rcases k with _ | _ | _ | _ | _ | _ | k <;> first | rfl | omega
theorem odd18_ok (n : Nat) (hn : n ≤ 6) (d0 d1 d2 d3 d4 : Nat) (e0 e1 e2 e3 e4 e6 e7 e8 e9 e11 e13 e14 : Option RV) : lcF (.nm 12) (cB (c2 gEq (c2 gMod (c2 gDiv (c2 gIx (cV 5) (cC (.int 3))) (c2 gIx (cV 10) (cV 12))) (cC (.int 2))) (cC (.int 1)))) (cV 12) [e0, e1, e2, e3, e4, some (.ol [.int (d0 : Int), .int (d1 : Int), .int (d2 : Int), .int (d3 : Int), .int (d4 : Int)]), e6, e7, e8, e9, some (.ol [.int 1, .int 2, .int 4, .int 8, .int 16, .int 32]), e11, none, e13, e14] ((List.range n).map natI) = .ok ((selI d3 n).map .int) := by
  refine sel_ok d3 n 12 (by omega) _ (by simp) _ fun k hk => ?_
  have q1 := pow6_at (k := k) (by omega)
  have q2 := bit_div d3 k (by omega)
  have q3 := e_modN (d3 / 2 ^ k) 2 (by omega)
  have q4 : decide (((d3 / 2 ^ k % 2 : Nat) : Int) = 1) = decide (d3 / 2 ^ k % 2 = 1) := by
    by_cases z : d3 / 2 ^ k % 2 = 1
    · rw [decide_eq_true z, decide_eq_true (by omega)]
    · rw [decide_eq_false z, decide_eq_false (by omega)]
  have q3 : gMod (.d (.int ((d3 / 2 ^ k : Nat) : Int))) (.d (.int 2)) = .ok (.d (.int ((d3 / 2 ^ k % 2 : Nat) : Int))) := q3
  have i3 : atI [PyData.int (d0 : Int), .int (d1 : Int), .int (d2 : Int), .int (d3 : Int), .int (d4 : Int)] 3 = some (.int (d3 : Int)) := rfl
  simp only [e_nil, e_seq, e_fz, e_bk, e_ct, e_ret, e_retN, e_drop, e_set, e_if, e_for, e_cC, e_c2, e_c1, e_cA, e_aN, e_aC, e_cB, e_asB, e_bNot, e_bAnd, e_bOr, e_vAnd, e_vOr, e_vNot, e_vIf, e_bYes, e_iL, e_iT, e_iLb, e_iR, e_gL1, e_gL2, e_gL3, e_gT, e_gLb1, e_gLb2, e_gLb3, e_gLb4, e_nb1, e_nb2, e_bor1, e_bor2, e_bor3, e_bor4, e_arg1, e_arg2, e_arg3, e_arg4, e_putd, e_puto, e_toD1, e_toD2, e_allD0, e_allD1, e_allD2, e_gTupl, e_gList, e_tgnm, e_tgtp, e_tg0, e_tg1, e_sq1, e_sq2, e_sq3, e_sq4, e_sq5, e_qv2, e_qv3, e_qv4, e_qv5, e_data1, e_data2, e_data3, e_okI, e_okB, e_i2, e_sub, e_mul, e_mod, e_div, e_pow, e_lt, e_le, e_gt, e_ge, e_neg, e_addI, e_addS, e_addT, e_addL1, e_addL2, e_addL3, e_addL4, e_addL5, e_addL6, e_addL7, e_addL8, e_addL9, e_eq, e_ne, e_in, e_notIn, e_inT, e_inT2, e_inL1, e_inL2, e_inL3, e_is, e_isNot, e_isN1, e_isN2, e_isN3, e_isN4, e_isN5, e_isN6, e_isN7, e_ixT, e_ixL, e_ixO, e_ixB, e_ixSc, e_lenT, e_lenL, e_lenO, e_lenB, e_lenSc, e_lenS, e_tupT, e_tupL, e_tupO, e_tupB, e_lisT, e_lisL, e_lisO, e_lisB, e_min2, e_max2, e_any, e_all, e_sum, e_sorted, e_rev, e_sl, e_oN, e_isi, e_lc, e_wipe0, e_wipe1, e_iA, e_iAb, e_gAq1, e_gAq2, e_gAq3, e_gAqb1, e_gAqb2, e_gAqb3, e_gAqb4, e_no, e_cCh, e_cChI, e_aug, e_decT, e_decF, e_cDispS, e_cDT, e_cDK, e_cDisp1, e_storeA, e_stR1, e_stR2, e_stR3, e_sd1, e_keyD1, e_keyD2, e_keyTD, e_intsD, e_intsD0, e_borT, e_borT2, e_borK, e_borK2, e_argT, e_argT2, e_argK, e_argK2, e_nbT, e_nbK, e_putT, e_putK, e_gAt1, e_gAt2, e_gAt3, e_gAt4, e_gGetDK, e_gGetDT, e_gIxD, e_gInD, e_gNotInD, e_cGet1, e_cGet2, e_dk1, e_dk2, e_dk3, e_dk4, e_dt1, e_dt2, e_del, atI_zero, e_at1, e_at2, e_at3, e_at4, e_at5, e_at6, e_at7, e_at8, e_at9, e_atm, e_V, e_retV, e_unp, e_app, e_store, e_fzE, oS, rsO_some, Rs.bind_ok, Rs.bind_no, Rs.out_ok, Out.then_nx, Out.then_rt, Out.then_ct, Out.then_bk, fin_rt, fin_nx, List.getElem?_cons_zero, List.getElem?_cons_succ, List.set_cons_succ, List.set_cons_zero, List.length_cons, List.length_nil, Nat.reduceAdd, Nat.reduceLT, Nat.reduceLeDiff, Nat.reduceEqDiff, if_true, if_false, Bool.false_eq_true, Bool.not_true, Bool.not_false, and_self, true_and, and_true, List.map_cons, List.map_nil, Option.map_some, sh_int, sh_bool, sh_none, sh_tup, sh_lst, eqv_int, reduceIte, Option.bind_some, Option.bind_none, kitB_ll, kitB_lt, kitB_tt, kitB_tl, kitB_ii, tyD_list, tyD_int, Bool.true_and, Bool.false_and, Bool.and_true, Bool.and_false, Bool.or_true, Bool.true_or, Bool.false_or, Bool.or_false, Bool.and_self, Bool.or_self, e_cAK, List.append_nil, List.nil_append, List.cons_append, e_andB, e_orB, e_andR, e_orR, tyD_tuple, eqv_bool, eqv_none, tyD_bool, tyD_str, tyD_none, kitB_bb, kitB_nb, kitB_bi, kitB_ib, kitB_nl, kitB_nt, beq_self_eq_true, i3, q1, q2, q3, q4]
theorem head18 (ns : List Int) (w r d0 d1 d2 d3 d4 k n many L : Nat) (EE UU GG MM OO : PyData) (TT : List (List Int × PyData)) (LL OD : List PyData) (hn : n ≤ 6)
    (x0 : gIx (.d EE) (.d (.int 0)) = .ok (.d UU))
    (p1 : F__law_ways [.d UU, .d (.int (r : Int)), .d (.tuple [])] = .ok (.ot TT))
    (p2 : F__law_draw [.sc ns, .d (.int (w : Int)), .d (.list [.int 9, .int 40, .int 40, .int 64, .int 9])] = .ok (.ol [.int (d0 : Int), .int (d1 : Int), .int (d2 : Int), .int (d3 : Int), .int (d4 : Int)]))
    (q45 : ∀ e7 e8 e9 e10 e11 e12 e13 e14, (sSeq kp_4 kp_5) [some (.sc ns), some (.d (.int (w : Int))), some (.d EE), some (.d (.int (r : Int))), some (.ot TT), some (.ol [.int (d0 : Int), .int (d1 : Int), .int (d2 : Int), .int (d3 : Int), .int (d4 : Int)]), some (.d .none), e7, e8, e9, e10, e11, e12, e13, e14] = .nx [some (.sc ns), some (.d (.int (w : Int))), some (.d EE), some (.d (.int (r : Int))), some (.ot TT), some (.ol [.int (d0 : Int), .int (d1 : Int), .int (d2 : Int), .int (d3 : Int), .int (d4 : Int)]), some (.d MM), some (.d (.int (many : Int))), e8, e9, e10, e11, e12, e13, e14])
    (hrg : gR1 [.d (.int (many : Int))] = .ok ((List.range many).map natI)) (hm : many ≤ 1000)
    (lo : ∀ e8 e10 e11 e12 e14, lcF (.nm 9) bYes (cA gSortedA (aC (cLc (iD (cV 4)) [13] (.nm 13) (cB (c2 gEq (c2 gIxD (cV 4) (cV 13)) (cV 9))) (cV 13)) aN)) [some (.sc ns), some (.d (.int (w : Int))), some (.d EE), some (.d (.int (r : Int))), some (.ot TT), some (.ol [.int (d0 : Int), .int (d1 : Int), .int (d2 : Int), .int (d3 : Int), .int (d4 : Int)]), some (.d MM), some (.d (.int (many : Int))), e8, none, e10, e11, e12, none, e14] ((List.range many).map natI) = .ok LL)
    (hnL : LL.length = L) (md : gMod (.d (.int (d1 : Int))) (.d (.int (L : Int))) = .ok (.d (.int (k : Int))))
    (hlu : gLen [.d UU] = .ok (.d (.int (n : Int)))) (hrn : gR1 [.d (.int (n : Int))] = .ok ((List.range n).map natI))
    (hodd : ∀ e0 e1 e2 e3 e4 e6 e7 e8 e9 e11 e13 e14, lcF (.nm 12) (cB (c2 gEq (c2 gMod (c2 gDiv (c2 gIx (cV 5) (cC (.int 3))) (c2 gIx (cV 10) (cV 12))) (cC (.int 2))) (cC (.int 1)))) (cV 12) [e0, e1, e2, e3, e4, some (.ol [.int (d0 : Int), .int (d1 : Int), .int (d2 : Int), .int (d3 : Int), .int (d4 : Int)]), e6, e7, e8, e9, some (.ol [.int 1, .int 2, .int 4, .int 8, .int 16, .int 32]), e11, none, e13, e14] ((List.range n).map natI) = .ok OD)
    (hz5 : OD.length ≤ 1000000) (tup : PyData.tuple OD = OO) :
    B__law_paper [some (.sc ns), some (.d (.int (w : Int))), some (.d EE), some (.d (.int (r : Int))), none, none, none, none, none, none, none, none, none, none, none] = (sSeq kp_10 kp_r) [some (.sc ns), some (.d (.int (w : Int))), some (.d EE), some (.d (.int (r : Int))), some (.ot TT), some (.ol [.int (d0 : Int), .int (d1 : Int), .int (d2 : Int), .int (d3 : Int), .int (d4 : Int)]), some (.d MM), some (.d (.int (many : Int))), some (.ol LL), some (.d (.int (k : Int))), some (.ol [.int 1, .int 2, .int 4, .int 8, .int 16, .int 32]), some (.d OO), none, none, none] := by
  have q1 : kp_1 [some (.sc ns), some (.d (.int (w : Int))), some (.d EE), some (.d (.int (r : Int))), none, none, none, none, none, none, none, none, none, none, none] = .nx [some (.sc ns), some (.d (.int (w : Int))), some (.d EE), some (.d (.int (r : Int))), some (.ot TT), none, none, none, none, none, none, none, none, none, none] := by
    unfold kp_1
    simp only [e_nil, e_seq, e_fz, e_bk, e_ct, e_ret, e_retN, e_drop, e_set, e_if, e_for, e_cC, e_c2, e_c1, e_cA, e_aN, e_aC, e_cB, e_asB, e_bNot, e_bAnd, e_bOr, e_vAnd, e_vOr, e_vNot, e_vIf, e_bYes, e_iL, e_iT, e_iLb, e_iR, e_gL1, e_gL2, e_gL3, e_gT, e_gLb1, e_gLb2, e_gLb3, e_gLb4, e_nb1, e_nb2, e_bor1, e_bor2, e_bor3, e_bor4, e_arg1, e_arg2, e_arg3, e_arg4, e_putd, e_puto, e_toD1, e_toD2, e_allD0, e_allD1, e_allD2, e_gTupl, e_gList, e_tgnm, e_tgtp, e_tg0, e_tg1, e_sq1, e_sq2, e_sq3, e_sq4, e_sq5, e_qv2, e_qv3, e_qv4, e_qv5, e_data1, e_data2, e_data3, e_okI, e_okB, e_i2, e_sub, e_mul, e_mod, e_div, e_pow, e_lt, e_le, e_gt, e_ge, e_neg, e_addI, e_addS, e_addT, e_addL1, e_addL2, e_addL3, e_addL4, e_addL5, e_addL6, e_addL7, e_addL8, e_addL9, e_eq, e_ne, e_in, e_notIn, e_inT, e_inT2, e_inL1, e_inL2, e_inL3, e_is, e_isNot, e_isN1, e_isN2, e_isN3, e_isN4, e_isN5, e_isN6, e_isN7, e_ixT, e_ixL, e_ixO, e_ixB, e_ixSc, e_lenT, e_lenL, e_lenO, e_lenB, e_lenSc, e_lenS, e_tupT, e_tupL, e_tupO, e_tupB, e_lisT, e_lisL, e_lisO, e_lisB, e_min2, e_max2, e_any, e_all, e_sum, e_sorted, e_rev, e_sl, e_oN, e_isi, e_lc, e_wipe0, e_wipe1, e_iA, e_iAb, e_gAq1, e_gAq2, e_gAq3, e_gAqb1, e_gAqb2, e_gAqb3, e_gAqb4, e_no, e_cCh, e_cChI, e_aug, e_decT, e_decF, e_cDispS, e_cDT, e_cDK, e_cDisp1, e_storeA, e_stR1, e_stR2, e_stR3, e_sd1, e_keyD1, e_keyD2, e_keyTD, e_intsD, e_intsD0, e_borT, e_borT2, e_borK, e_borK2, e_argT, e_argT2, e_argK, e_argK2, e_nbT, e_nbK, e_putT, e_putK, e_gAt1, e_gAt2, e_gAt3, e_gAt4, e_gGetDK, e_gGetDT, e_gIxD, e_gInD, e_gNotInD, e_cGet1, e_cGet2, e_dk1, e_dk2, e_dk3, e_dk4, e_dt1, e_dt2, e_del, atI_zero, e_at1, e_at2, e_at3, e_at4, e_at5, e_at6, e_at7, e_at8, e_at9, e_atm, e_V, e_retV, e_unp, e_app, e_store, e_fzE, oS, rsO_some, Rs.bind_ok, Rs.bind_no, Rs.out_ok, Out.then_nx, Out.then_rt, Out.then_ct, Out.then_bk, fin_rt, fin_nx, List.getElem?_cons_zero, List.getElem?_cons_succ, List.set_cons_succ, List.set_cons_zero, List.length_cons, List.length_nil, Nat.reduceAdd, Nat.reduceLT, Nat.reduceLeDiff, Nat.reduceEqDiff, if_true, if_false, Bool.false_eq_true, Bool.not_true, Bool.not_false, and_self, true_and, and_true, List.map_cons, List.map_nil, Option.map_some, sh_int, sh_bool, sh_none, sh_tup, sh_lst, eqv_int, reduceIte, Option.bind_some, Option.bind_none, kitB_ll, kitB_lt, kitB_tt, kitB_tl, kitB_ii, tyD_list, tyD_int, Bool.true_and, Bool.false_and, Bool.and_true, Bool.and_false, Bool.or_true, Bool.true_or, Bool.false_or, Bool.or_false, Bool.and_self, Bool.or_self, e_cAK, List.append_nil, List.nil_append, List.cons_append, e_andB, e_orB, e_andR, e_orR, tyD_tuple, eqv_bool, eqv_none, tyD_bool, tyD_str, tyD_none, kitB_bb, kitB_nb, kitB_bi, kitB_ib, kitB_nl, kitB_nt, beq_self_eq_true, x0, p1]
  have q2 : kp_2 [some (.sc ns), some (.d (.int (w : Int))), some (.d EE), some (.d (.int (r : Int))), some (.ot TT), none, none, none, none, none, none, none, none, none, none] = .nx [some (.sc ns), some (.d (.int (w : Int))), some (.d EE), some (.d (.int (r : Int))), some (.ot TT), some (.ol [.int (d0 : Int), .int (d1 : Int), .int (d2 : Int), .int (d3 : Int), .int (d4 : Int)]), none, none, none, none, none, none, none, none, none] := by
    unfold kp_2
    simp only [e_nil, e_seq, e_fz, e_bk, e_ct, e_ret, e_retN, e_drop, e_set, e_if, e_for, e_cC, e_c2, e_c1, e_cA, e_aN, e_aC, e_cB, e_asB, e_bNot, e_bAnd, e_bOr, e_vAnd, e_vOr, e_vNot, e_vIf, e_bYes, e_iL, e_iT, e_iLb, e_iR, e_gL1, e_gL2, e_gL3, e_gT, e_gLb1, e_gLb2, e_gLb3, e_gLb4, e_nb1, e_nb2, e_bor1, e_bor2, e_bor3, e_bor4, e_arg1, e_arg2, e_arg3, e_arg4, e_putd, e_puto, e_toD1, e_toD2, e_allD0, e_allD1, e_allD2, e_gTupl, e_gList, e_tgnm, e_tgtp, e_tg0, e_tg1, e_sq1, e_sq2, e_sq3, e_sq4, e_sq5, e_qv2, e_qv3, e_qv4, e_qv5, e_data1, e_data2, e_data3, e_okI, e_okB, e_i2, e_sub, e_mul, e_mod, e_div, e_pow, e_lt, e_le, e_gt, e_ge, e_neg, e_addI, e_addS, e_addT, e_addL1, e_addL2, e_addL3, e_addL4, e_addL5, e_addL6, e_addL7, e_addL8, e_addL9, e_eq, e_ne, e_in, e_notIn, e_inT, e_inT2, e_inL1, e_inL2, e_inL3, e_is, e_isNot, e_isN1, e_isN2, e_isN3, e_isN4, e_isN5, e_isN6, e_isN7, e_ixT, e_ixL, e_ixO, e_ixB, e_ixSc, e_lenT, e_lenL, e_lenO, e_lenB, e_lenSc, e_lenS, e_tupT, e_tupL, e_tupO, e_tupB, e_lisT, e_lisL, e_lisO, e_lisB, e_min2, e_max2, e_any, e_all, e_sum, e_sorted, e_rev, e_sl, e_oN, e_isi, e_lc, e_wipe0, e_wipe1, e_iA, e_iAb, e_gAq1, e_gAq2, e_gAq3, e_gAqb1, e_gAqb2, e_gAqb3, e_gAqb4, e_no, e_cCh, e_cChI, e_aug, e_decT, e_decF, e_cDispS, e_cDT, e_cDK, e_cDisp1, e_storeA, e_stR1, e_stR2, e_stR3, e_sd1, e_keyD1, e_keyD2, e_keyTD, e_intsD, e_intsD0, e_borT, e_borT2, e_borK, e_borK2, e_argT, e_argT2, e_argK, e_argK2, e_nbT, e_nbK, e_putT, e_putK, e_gAt1, e_gAt2, e_gAt3, e_gAt4, e_gGetDK, e_gGetDT, e_gIxD, e_gInD, e_gNotInD, e_cGet1, e_cGet2, e_dk1, e_dk2, e_dk3, e_dk4, e_dt1, e_dt2, e_del, atI_zero, e_at1, e_at2, e_at3, e_at4, e_at5, e_at6, e_at7, e_at8, e_at9, e_atm, e_V, e_retV, e_unp, e_app, e_store, e_fzE, oS, rsO_some, Rs.bind_ok, Rs.bind_no, Rs.out_ok, Out.then_nx, Out.then_rt, Out.then_ct, Out.then_bk, fin_rt, fin_nx, List.getElem?_cons_zero, List.getElem?_cons_succ, List.set_cons_succ, List.set_cons_zero, List.length_cons, List.length_nil, Nat.reduceAdd, Nat.reduceLT, Nat.reduceLeDiff, Nat.reduceEqDiff, if_true, if_false, Bool.false_eq_true, Bool.not_true, Bool.not_false, and_self, true_and, and_true, List.map_cons, List.map_nil, Option.map_some, sh_int, sh_bool, sh_none, sh_tup, sh_lst, eqv_int, reduceIte, Option.bind_some, Option.bind_none, kitB_ll, kitB_lt, kitB_tt, kitB_tl, kitB_ii, tyD_list, tyD_int, Bool.true_and, Bool.false_and, Bool.and_true, Bool.and_false, Bool.or_true, Bool.true_or, Bool.false_or, Bool.or_false, Bool.and_self, Bool.or_self, e_cAK, List.append_nil, List.nil_append, List.cons_append, e_andB, e_orB, e_andR, e_orR, tyD_tuple, eqv_bool, eqv_none, tyD_bool, tyD_str, tyD_none, kitB_bb, kitB_nb, kitB_bi, kitB_ib, kitB_nl, kitB_nt, beq_self_eq_true, p2]
  have q3 : kp_3 [some (.sc ns), some (.d (.int (w : Int))), some (.d EE), some (.d (.int (r : Int))), some (.ot TT), some (.ol [.int (d0 : Int), .int (d1 : Int), .int (d2 : Int), .int (d3 : Int), .int (d4 : Int)]), none, none, none, none, none, none, none, none, none] = .nx [some (.sc ns), some (.d (.int (w : Int))), some (.d EE), some (.d (.int (r : Int))), some (.ot TT), some (.ol [.int (d0 : Int), .int (d1 : Int), .int (d2 : Int), .int (d3 : Int), .int (d4 : Int)]), some (.d .none), none, none, none, none, none, none, none, none] := by
    unfold kp_3
    simp only [e_nil, e_seq, e_fz, e_bk, e_ct, e_ret, e_retN, e_drop, e_set, e_if, e_for, e_cC, e_c2, e_c1, e_cA, e_aN, e_aC, e_cB, e_asB, e_bNot, e_bAnd, e_bOr, e_vAnd, e_vOr, e_vNot, e_vIf, e_bYes, e_iL, e_iT, e_iLb, e_iR, e_gL1, e_gL2, e_gL3, e_gT, e_gLb1, e_gLb2, e_gLb3, e_gLb4, e_nb1, e_nb2, e_bor1, e_bor2, e_bor3, e_bor4, e_arg1, e_arg2, e_arg3, e_arg4, e_putd, e_puto, e_toD1, e_toD2, e_allD0, e_allD1, e_allD2, e_gTupl, e_gList, e_tgnm, e_tgtp, e_tg0, e_tg1, e_sq1, e_sq2, e_sq3, e_sq4, e_sq5, e_qv2, e_qv3, e_qv4, e_qv5, e_data1, e_data2, e_data3, e_okI, e_okB, e_i2, e_sub, e_mul, e_mod, e_div, e_pow, e_lt, e_le, e_gt, e_ge, e_neg, e_addI, e_addS, e_addT, e_addL1, e_addL2, e_addL3, e_addL4, e_addL5, e_addL6, e_addL7, e_addL8, e_addL9, e_eq, e_ne, e_in, e_notIn, e_inT, e_inT2, e_inL1, e_inL2, e_inL3, e_is, e_isNot, e_isN1, e_isN2, e_isN3, e_isN4, e_isN5, e_isN6, e_isN7, e_ixT, e_ixL, e_ixO, e_ixB, e_ixSc, e_lenT, e_lenL, e_lenO, e_lenB, e_lenSc, e_lenS, e_tupT, e_tupL, e_tupO, e_tupB, e_lisT, e_lisL, e_lisO, e_lisB, e_min2, e_max2, e_any, e_all, e_sum, e_sorted, e_rev, e_sl, e_oN, e_isi, e_lc, e_wipe0, e_wipe1, e_iA, e_iAb, e_gAq1, e_gAq2, e_gAq3, e_gAqb1, e_gAqb2, e_gAqb3, e_gAqb4, e_no, e_cCh, e_cChI, e_aug, e_decT, e_decF, e_cDispS, e_cDT, e_cDK, e_cDisp1, e_storeA, e_stR1, e_stR2, e_stR3, e_sd1, e_keyD1, e_keyD2, e_keyTD, e_intsD, e_intsD0, e_borT, e_borT2, e_borK, e_borK2, e_argT, e_argT2, e_argK, e_argK2, e_nbT, e_nbK, e_putT, e_putK, e_gAt1, e_gAt2, e_gAt3, e_gAt4, e_gGetDK, e_gGetDT, e_gIxD, e_gInD, e_gNotInD, e_cGet1, e_cGet2, e_dk1, e_dk2, e_dk3, e_dk4, e_dt1, e_dt2, e_del, atI_zero, e_at1, e_at2, e_at3, e_at4, e_at5, e_at6, e_at7, e_at8, e_at9, e_atm, e_V, e_retV, e_unp, e_app, e_store, e_fzE, oS, rsO_some, Rs.bind_ok, Rs.bind_no, Rs.out_ok, Out.then_nx, Out.then_rt, Out.then_ct, Out.then_bk, fin_rt, fin_nx, List.getElem?_cons_zero, List.getElem?_cons_succ, List.set_cons_succ, List.set_cons_zero, List.length_cons, List.length_nil, Nat.reduceAdd, Nat.reduceLT, Nat.reduceLeDiff, Nat.reduceEqDiff, if_true, if_false, Bool.false_eq_true, Bool.not_true, Bool.not_false, and_self, true_and, and_true, List.map_cons, List.map_nil, Option.map_some, sh_int, sh_bool, sh_none, sh_tup, sh_lst, eqv_int, reduceIte, Option.bind_some, Option.bind_none, kitB_ll, kitB_lt, kitB_tt, kitB_tl, kitB_ii, tyD_list, tyD_int, Bool.true_and, Bool.false_and, Bool.and_true, Bool.and_false, Bool.or_true, Bool.true_or, Bool.false_or, Bool.or_false, Bool.and_self, Bool.or_self, e_cAK, List.append_nil, List.nil_append, List.cons_append, e_andB, e_orB, e_andR, e_orR, tyD_tuple, eqv_bool, eqv_none, tyD_bool, tyD_str, tyD_none, kitB_bb, kitB_nb, kitB_bi, kitB_ib, kitB_nl, kitB_nt, beq_self_eq_true]
  have q4 := q45 none none none none none none none none
  have lo0 := lo none none none none none
  have q6 : kp_6 [some (.sc ns), some (.d (.int (w : Int))), some (.d EE), some (.d (.int (r : Int))), some (.ot TT), some (.ol [.int (d0 : Int), .int (d1 : Int), .int (d2 : Int), .int (d3 : Int), .int (d4 : Int)]), some (.d MM), some (.d (.int (many : Int))), none, none, none, none, none, none, none] = .nx [some (.sc ns), some (.d (.int (w : Int))), some (.d EE), some (.d (.int (r : Int))), some (.ot TT), some (.ol [.int (d0 : Int), .int (d1 : Int), .int (d2 : Int), .int (d3 : Int), .int (d4 : Int)]), some (.d MM), some (.d (.int (many : Int))), some (.ol LL), none, none, none, none, none, none] := by
    unfold kp_6
    simp only [e_nil, e_seq, e_fz, e_bk, e_ct, e_ret, e_retN, e_drop, e_set, e_if, e_for, e_cC, e_c2, e_c1, e_cA, e_aN, e_aC, e_cB, e_asB, e_bNot, e_bAnd, e_bOr, e_vAnd, e_vOr, e_vNot, e_vIf, e_bYes, e_iL, e_iT, e_iLb, e_iR, e_gL1, e_gL2, e_gL3, e_gT, e_gLb1, e_gLb2, e_gLb3, e_gLb4, e_nb1, e_nb2, e_bor1, e_bor2, e_bor3, e_bor4, e_arg1, e_arg2, e_arg3, e_arg4, e_putd, e_puto, e_toD1, e_toD2, e_allD0, e_allD1, e_allD2, e_gTupl, e_gList, e_tgnm, e_tgtp, e_tg0, e_tg1, e_sq1, e_sq2, e_sq3, e_sq4, e_sq5, e_qv2, e_qv3, e_qv4, e_qv5, e_data1, e_data2, e_data3, e_okI, e_okB, e_i2, e_sub, e_mul, e_mod, e_div, e_pow, e_lt, e_le, e_gt, e_ge, e_neg, e_addI, e_addS, e_addT, e_addL1, e_addL2, e_addL3, e_addL4, e_addL5, e_addL6, e_addL7, e_addL8, e_addL9, e_eq, e_ne, e_in, e_notIn, e_inT, e_inT2, e_inL1, e_inL2, e_inL3, e_is, e_isNot, e_isN1, e_isN2, e_isN3, e_isN4, e_isN5, e_isN6, e_isN7, e_ixT, e_ixL, e_ixO, e_ixB, e_ixSc, e_lenT, e_lenL, e_lenO, e_lenB, e_lenSc, e_lenS, e_tupT, e_tupL, e_tupO, e_tupB, e_lisT, e_lisL, e_lisO, e_lisB, e_min2, e_max2, e_any, e_all, e_sum, e_sorted, e_rev, e_sl, e_oN, e_isi, e_lc, e_wipe0, e_wipe1, e_iA, e_iAb, e_gAq1, e_gAq2, e_gAq3, e_gAqb1, e_gAqb2, e_gAqb3, e_gAqb4, e_no, e_cCh, e_cChI, e_aug, e_decT, e_decF, e_cDispS, e_cDT, e_cDK, e_cDisp1, e_storeA, e_stR1, e_stR2, e_stR3, e_sd1, e_keyD1, e_keyD2, e_keyTD, e_intsD, e_intsD0, e_borT, e_borT2, e_borK, e_borK2, e_argT, e_argT2, e_argK, e_argK2, e_nbT, e_nbK, e_putT, e_putK, e_gAt1, e_gAt2, e_gAt3, e_gAt4, e_gGetDK, e_gGetDT, e_gIxD, e_gInD, e_gNotInD, e_cGet1, e_cGet2, e_dk1, e_dk2, e_dk3, e_dk4, e_dt1, e_dt2, e_del, atI_zero, e_at1, e_at2, e_at3, e_at4, e_at5, e_at6, e_at7, e_at8, e_at9, e_atm, e_V, e_retV, e_unp, e_app, e_store, e_fzE, oS, rsO_some, Rs.bind_ok, Rs.bind_no, Rs.out_ok, Out.then_nx, Out.then_rt, Out.then_ct, Out.then_bk, fin_rt, fin_nx, List.getElem?_cons_zero, List.getElem?_cons_succ, List.set_cons_succ, List.set_cons_zero, List.length_cons, List.length_nil, Nat.reduceAdd, Nat.reduceLT, Nat.reduceLeDiff, Nat.reduceEqDiff, if_true, if_false, Bool.false_eq_true, Bool.not_true, Bool.not_false, and_self, true_and, and_true, List.map_cons, List.map_nil, Option.map_some, sh_int, sh_bool, sh_none, sh_tup, sh_lst, eqv_int, reduceIte, Option.bind_some, Option.bind_none, kitB_ll, kitB_lt, kitB_tt, kitB_tl, kitB_ii, tyD_list, tyD_int, Bool.true_and, Bool.false_and, Bool.and_true, Bool.and_false, Bool.or_true, Bool.true_or, Bool.false_or, Bool.or_false, Bool.and_self, Bool.or_self, e_cAK, List.append_nil, List.nil_append, List.cons_append, e_andB, e_orB, e_andR, e_orR, tyD_tuple, eqv_bool, eqv_none, tyD_bool, tyD_str, tyD_none, kitB_bb, kitB_nb, kitB_bi, kitB_ib, kitB_nl, kitB_nt, beq_self_eq_true, hrg, List.length_map, List.length_range, if_pos (show many ≤ 1000000 by omega), lo0]
  have q7 : kp_7 [some (.sc ns), some (.d (.int (w : Int))), some (.d EE), some (.d (.int (r : Int))), some (.ot TT), some (.ol [.int (d0 : Int), .int (d1 : Int), .int (d2 : Int), .int (d3 : Int), .int (d4 : Int)]), some (.d MM), some (.d (.int (many : Int))), some (.ol LL), none, none, none, none, none, none] = .nx [some (.sc ns), some (.d (.int (w : Int))), some (.d EE), some (.d (.int (r : Int))), some (.ot TT), some (.ol [.int (d0 : Int), .int (d1 : Int), .int (d2 : Int), .int (d3 : Int), .int (d4 : Int)]), some (.d MM), some (.d (.int (many : Int))), some (.ol LL), some (.d (.int (k : Int))), none, none, none, none, none] := by
    unfold kp_7
    simp only [e_nil, e_seq, e_fz, e_bk, e_ct, e_ret, e_retN, e_drop, e_set, e_if, e_for, e_cC, e_c2, e_c1, e_cA, e_aN, e_aC, e_cB, e_asB, e_bNot, e_bAnd, e_bOr, e_vAnd, e_vOr, e_vNot, e_vIf, e_bYes, e_iL, e_iT, e_iLb, e_iR, e_gL1, e_gL2, e_gL3, e_gT, e_gLb1, e_gLb2, e_gLb3, e_gLb4, e_nb1, e_nb2, e_bor1, e_bor2, e_bor3, e_bor4, e_arg1, e_arg2, e_arg3, e_arg4, e_putd, e_puto, e_toD1, e_toD2, e_allD0, e_allD1, e_allD2, e_gTupl, e_gList, e_tgnm, e_tgtp, e_tg0, e_tg1, e_sq1, e_sq2, e_sq3, e_sq4, e_sq5, e_qv2, e_qv3, e_qv4, e_qv5, e_data1, e_data2, e_data3, e_okI, e_okB, e_i2, e_sub, e_mul, e_mod, e_div, e_pow, e_lt, e_le, e_gt, e_ge, e_neg, e_addI, e_addS, e_addT, e_addL1, e_addL2, e_addL3, e_addL4, e_addL5, e_addL6, e_addL7, e_addL8, e_addL9, e_eq, e_ne, e_in, e_notIn, e_inT, e_inT2, e_inL1, e_inL2, e_inL3, e_is, e_isNot, e_isN1, e_isN2, e_isN3, e_isN4, e_isN5, e_isN6, e_isN7, e_ixT, e_ixL, e_ixO, e_ixB, e_ixSc, e_lenT, e_lenL, e_lenO, e_lenB, e_lenSc, e_lenS, e_tupT, e_tupL, e_tupO, e_tupB, e_lisT, e_lisL, e_lisO, e_lisB, e_min2, e_max2, e_any, e_all, e_sum, e_sorted, e_rev, e_sl, e_oN, e_isi, e_lc, e_wipe0, e_wipe1, e_iA, e_iAb, e_gAq1, e_gAq2, e_gAq3, e_gAqb1, e_gAqb2, e_gAqb3, e_gAqb4, e_no, e_cCh, e_cChI, e_aug, e_decT, e_decF, e_cDispS, e_cDT, e_cDK, e_cDisp1, e_storeA, e_stR1, e_stR2, e_stR3, e_sd1, e_keyD1, e_keyD2, e_keyTD, e_intsD, e_intsD0, e_borT, e_borT2, e_borK, e_borK2, e_argT, e_argT2, e_argK, e_argK2, e_nbT, e_nbK, e_putT, e_putK, e_gAt1, e_gAt2, e_gAt3, e_gAt4, e_gGetDK, e_gGetDT, e_gIxD, e_gInD, e_gNotInD, e_cGet1, e_cGet2, e_dk1, e_dk2, e_dk3, e_dk4, e_dt1, e_dt2, e_del, atI_zero, e_at1, e_at2, e_at3, e_at4, e_at5, e_at6, e_at7, e_at8, e_at9, e_atm, e_V, e_retV, e_unp, e_app, e_store, e_fzE, oS, rsO_some, Rs.bind_ok, Rs.bind_no, Rs.out_ok, Out.then_nx, Out.then_rt, Out.then_ct, Out.then_bk, fin_rt, fin_nx, List.getElem?_cons_zero, List.getElem?_cons_succ, List.set_cons_succ, List.set_cons_zero, List.length_cons, List.length_nil, Nat.reduceAdd, Nat.reduceLT, Nat.reduceLeDiff, Nat.reduceEqDiff, if_true, if_false, Bool.false_eq_true, Bool.not_true, Bool.not_false, and_self, true_and, and_true, List.map_cons, List.map_nil, Option.map_some, sh_int, sh_bool, sh_none, sh_tup, sh_lst, eqv_int, reduceIte, Option.bind_some, Option.bind_none, kitB_ll, kitB_lt, kitB_tt, kitB_tl, kitB_ii, tyD_list, tyD_int, Bool.true_and, Bool.false_and, Bool.and_true, Bool.and_false, Bool.or_true, Bool.true_or, Bool.false_or, Bool.or_false, Bool.and_self, Bool.or_self, e_cAK, List.append_nil, List.nil_append, List.cons_append, e_andB, e_orB, e_andR, e_orR, tyD_tuple, eqv_bool, eqv_none, tyD_bool, tyD_str, tyD_none, kitB_bb, kitB_nb, kitB_bi, kitB_ib, kitB_nl, kitB_nt, beq_self_eq_true, hnL, md]
  have q8 : kp_8 [some (.sc ns), some (.d (.int (w : Int))), some (.d EE), some (.d (.int (r : Int))), some (.ot TT), some (.ol [.int (d0 : Int), .int (d1 : Int), .int (d2 : Int), .int (d3 : Int), .int (d4 : Int)]), some (.d MM), some (.d (.int (many : Int))), some (.ol LL), some (.d (.int (k : Int))), none, none, none, none, none] = .nx [some (.sc ns), some (.d (.int (w : Int))), some (.d EE), some (.d (.int (r : Int))), some (.ot TT), some (.ol [.int (d0 : Int), .int (d1 : Int), .int (d2 : Int), .int (d3 : Int), .int (d4 : Int)]), some (.d MM), some (.d (.int (many : Int))), some (.ol LL), some (.d (.int (k : Int))), some (.ol [.int 1, .int 2, .int 4, .int 8, .int 16, .int 32]), none, none, none, none] := by
    unfold kp_8
    simp only [e_nil, e_seq, e_fz, e_bk, e_ct, e_ret, e_retN, e_drop, e_set, e_if, e_for, e_cC, e_c2, e_c1, e_cA, e_aN, e_aC, e_cB, e_asB, e_bNot, e_bAnd, e_bOr, e_vAnd, e_vOr, e_vNot, e_vIf, e_bYes, e_iL, e_iT, e_iLb, e_iR, e_gL1, e_gL2, e_gL3, e_gT, e_gLb1, e_gLb2, e_gLb3, e_gLb4, e_nb1, e_nb2, e_bor1, e_bor2, e_bor3, e_bor4, e_arg1, e_arg2, e_arg3, e_arg4, e_putd, e_puto, e_toD1, e_toD2, e_allD0, e_allD1, e_allD2, e_gTupl, e_gList, e_tgnm, e_tgtp, e_tg0, e_tg1, e_sq1, e_sq2, e_sq3, e_sq4, e_sq5, e_qv2, e_qv3, e_qv4, e_qv5, e_data1, e_data2, e_data3, e_okI, e_okB, e_i2, e_sub, e_mul, e_mod, e_div, e_pow, e_lt, e_le, e_gt, e_ge, e_neg, e_addI, e_addS, e_addT, e_addL1, e_addL2, e_addL3, e_addL4, e_addL5, e_addL6, e_addL7, e_addL8, e_addL9, e_eq, e_ne, e_in, e_notIn, e_inT, e_inT2, e_inL1, e_inL2, e_inL3, e_is, e_isNot, e_isN1, e_isN2, e_isN3, e_isN4, e_isN5, e_isN6, e_isN7, e_ixT, e_ixL, e_ixO, e_ixB, e_ixSc, e_lenT, e_lenL, e_lenO, e_lenB, e_lenSc, e_lenS, e_tupT, e_tupL, e_tupO, e_tupB, e_lisT, e_lisL, e_lisO, e_lisB, e_min2, e_max2, e_any, e_all, e_sum, e_sorted, e_rev, e_sl, e_oN, e_isi, e_lc, e_wipe0, e_wipe1, e_iA, e_iAb, e_gAq1, e_gAq2, e_gAq3, e_gAqb1, e_gAqb2, e_gAqb3, e_gAqb4, e_no, e_cCh, e_cChI, e_aug, e_decT, e_decF, e_cDispS, e_cDT, e_cDK, e_cDisp1, e_storeA, e_stR1, e_stR2, e_stR3, e_sd1, e_keyD1, e_keyD2, e_keyTD, e_intsD, e_intsD0, e_borT, e_borT2, e_borK, e_borK2, e_argT, e_argT2, e_argK, e_argK2, e_nbT, e_nbK, e_putT, e_putK, e_gAt1, e_gAt2, e_gAt3, e_gAt4, e_gGetDK, e_gGetDT, e_gIxD, e_gInD, e_gNotInD, e_cGet1, e_cGet2, e_dk1, e_dk2, e_dk3, e_dk4, e_dt1, e_dt2, e_del, atI_zero, e_at1, e_at2, e_at3, e_at4, e_at5, e_at6, e_at7, e_at8, e_at9, e_atm, e_V, e_retV, e_unp, e_app, e_store, e_fzE, oS, rsO_some, Rs.bind_ok, Rs.bind_no, Rs.out_ok, Out.then_nx, Out.then_rt, Out.then_ct, Out.then_bk, fin_rt, fin_nx, List.getElem?_cons_zero, List.getElem?_cons_succ, List.set_cons_succ, List.set_cons_zero, List.length_cons, List.length_nil, Nat.reduceAdd, Nat.reduceLT, Nat.reduceLeDiff, Nat.reduceEqDiff, if_true, if_false, Bool.false_eq_true, Bool.not_true, Bool.not_false, and_self, true_and, and_true, List.map_cons, List.map_nil, Option.map_some, sh_int, sh_bool, sh_none, sh_tup, sh_lst, eqv_int, reduceIte, Option.bind_some, Option.bind_none, kitB_ll, kitB_lt, kitB_tt, kitB_tl, kitB_ii, tyD_list, tyD_int, Bool.true_and, Bool.false_and, Bool.and_true, Bool.and_false, Bool.or_true, Bool.true_or, Bool.false_or, Bool.or_false, Bool.and_self, Bool.or_self, e_cAK, List.append_nil, List.nil_append, List.cons_append, e_andB, e_orB, e_andR, e_orR, tyD_tuple, eqv_bool, eqv_none, tyD_bool, tyD_str, tyD_none, kitB_bb, kitB_nb, kitB_bi, kitB_ib, kitB_nl, kitB_nt, beq_self_eq_true]
  have q9 : kp_9 [some (.sc ns), some (.d (.int (w : Int))), some (.d EE), some (.d (.int (r : Int))), some (.ot TT), some (.ol [.int (d0 : Int), .int (d1 : Int), .int (d2 : Int), .int (d3 : Int), .int (d4 : Int)]), some (.d MM), some (.d (.int (many : Int))), some (.ol LL), some (.d (.int (k : Int))), some (.ol [.int 1, .int 2, .int 4, .int 8, .int 16, .int 32]), none, none, none, none] = .nx [some (.sc ns), some (.d (.int (w : Int))), some (.d EE), some (.d (.int (r : Int))), some (.ot TT), some (.ol [.int (d0 : Int), .int (d1 : Int), .int (d2 : Int), .int (d3 : Int), .int (d4 : Int)]), some (.d MM), some (.d (.int (many : Int))), some (.ol LL), some (.d (.int (k : Int))), some (.ol [.int 1, .int 2, .int 4, .int 8, .int 16, .int 32]), some (.d OO), none, none, none] := by
    unfold kp_9
    simp only [e_nil, e_seq, e_fz, e_bk, e_ct, e_ret, e_retN, e_drop, e_set, e_if, e_for, e_cC, e_c2, e_c1, e_cA, e_aN, e_aC, e_cB, e_asB, e_bNot, e_bAnd, e_bOr, e_vAnd, e_vOr, e_vNot, e_vIf, e_bYes, e_iL, e_iT, e_iLb, e_iR, e_gL1, e_gL2, e_gL3, e_gT, e_gLb1, e_gLb2, e_gLb3, e_gLb4, e_nb1, e_nb2, e_bor1, e_bor2, e_bor3, e_bor4, e_arg1, e_arg2, e_arg3, e_arg4, e_putd, e_puto, e_toD1, e_toD2, e_allD0, e_allD1, e_allD2, e_gTupl, e_gList, e_tgnm, e_tgtp, e_tg0, e_tg1, e_sq1, e_sq2, e_sq3, e_sq4, e_sq5, e_qv2, e_qv3, e_qv4, e_qv5, e_data1, e_data2, e_data3, e_okI, e_okB, e_i2, e_sub, e_mul, e_mod, e_div, e_pow, e_lt, e_le, e_gt, e_ge, e_neg, e_addI, e_addS, e_addT, e_addL1, e_addL2, e_addL3, e_addL4, e_addL5, e_addL6, e_addL7, e_addL8, e_addL9, e_eq, e_ne, e_in, e_notIn, e_inT, e_inT2, e_inL1, e_inL2, e_inL3, e_is, e_isNot, e_isN1, e_isN2, e_isN3, e_isN4, e_isN5, e_isN6, e_isN7, e_ixT, e_ixL, e_ixO, e_ixB, e_ixSc, e_lenT, e_lenL, e_lenO, e_lenB, e_lenSc, e_lenS, e_tupT, e_tupL, e_tupO, e_tupB, e_lisT, e_lisL, e_lisO, e_lisB, e_min2, e_max2, e_any, e_all, e_sum, e_sorted, e_rev, e_sl, e_oN, e_isi, e_lc, e_wipe0, e_wipe1, e_iA, e_iAb, e_gAq1, e_gAq2, e_gAq3, e_gAqb1, e_gAqb2, e_gAqb3, e_gAqb4, e_no, e_cCh, e_cChI, e_aug, e_decT, e_decF, e_cDispS, e_cDT, e_cDK, e_cDisp1, e_storeA, e_stR1, e_stR2, e_stR3, e_sd1, e_keyD1, e_keyD2, e_keyTD, e_intsD, e_intsD0, e_borT, e_borT2, e_borK, e_borK2, e_argT, e_argT2, e_argK, e_argK2, e_nbT, e_nbK, e_putT, e_putK, e_gAt1, e_gAt2, e_gAt3, e_gAt4, e_gGetDK, e_gGetDT, e_gIxD, e_gInD, e_gNotInD, e_cGet1, e_cGet2, e_dk1, e_dk2, e_dk3, e_dk4, e_dt1, e_dt2, e_del, atI_zero, e_at1, e_at2, e_at3, e_at4, e_at5, e_at6, e_at7, e_at8, e_at9, e_atm, e_V, e_retV, e_unp, e_app, e_store, e_fzE, oS, rsO_some, Rs.bind_ok, Rs.bind_no, Rs.out_ok, Out.then_nx, Out.then_rt, Out.then_ct, Out.then_bk, fin_rt, fin_nx, List.getElem?_cons_zero, List.getElem?_cons_succ, List.set_cons_succ, List.set_cons_zero, List.length_cons, List.length_nil, Nat.reduceAdd, Nat.reduceLT, Nat.reduceLeDiff, Nat.reduceEqDiff, if_true, if_false, Bool.false_eq_true, Bool.not_true, Bool.not_false, and_self, true_and, and_true, List.map_cons, List.map_nil, Option.map_some, sh_int, sh_bool, sh_none, sh_tup, sh_lst, eqv_int, reduceIte, Option.bind_some, Option.bind_none, kitB_ll, kitB_lt, kitB_tt, kitB_tl, kitB_ii, tyD_list, tyD_int, Bool.true_and, Bool.false_and, Bool.and_true, Bool.and_false, Bool.or_true, Bool.true_or, Bool.false_or, Bool.or_false, Bool.and_self, Bool.or_self, e_cAK, List.append_nil, List.nil_append, List.cons_append, e_andB, e_orB, e_andR, e_orR, tyD_tuple, eqv_bool, eqv_none, tyD_bool, tyD_str, tyD_none, kitB_bb, kitB_nb, kitB_bi, kitB_ib, kitB_nl, kitB_nt, beq_self_eq_true, x0, hlu, hrn, hodd, List.length_map, List.length_range, if_pos (show n ≤ 1000000 by omega), if_pos hz5, tup]
  rw [e_seq] at q4
  rw [kp_eq, e_seq, q1, Out.then_nx, e_seq, q2, Out.then_nx, e_seq, q3, Out.then_nx, e_seq]
  cases z : kp_4 [some (.sc ns), some (.d (.int (w : Int))), some (.d EE), some (.d (.int (r : Int))), some (.ot TT), some (.ol [.int (d0 : Int), .int (d1 : Int), .int (d2 : Int), .int (d3 : Int), .int (d4 : Int)]), some (.d .none), none, none, none, none, none, none, none, none] with
  | nx e =>
    rw [z, Out.then_nx] at q4
    rw [Out.then_nx, e_seq, q4, Out.then_nx, e_seq, q6, Out.then_nx, e_seq, q7, Out.then_nx, e_seq, q8, Out.then_nx, e_seq, q9, Out.then_nx]
  | _ => rw [z] at q4; cases q4
theorem paper_ok (ns : List Int) (w : Nat) (us : List (List Int)) (ts : List Int) (r : Nat) (hr : r ≤ 8) (hu6 : us.length ≤ 6) (hw : ∀ s, (usAt us s).length ≤ 1000000) (hts : ts ≠ []) :
    ∃ (r' : Nat) (m' : Option Int) (Ls' : List (List (List Int))), r' ≤ 8 ∧ Lvs us Ls' 301 601 ∧ F__law_paper [.sc ns, .d (.int (w : Int)), .d (encT us ts), .d (.int (r : Int))] = .ok (.d (paperD r' m' Ls')) := by
  have hu : us.length ≤ 8 := by omega
  obtain ⟨nd, p3, l3, b3⟩ := draw_nat ns w [9, 40, 40, 64, 9] (by simp) (by simp)
  obtain ⟨d0, d1, d2, d3, d4, rfl⟩ : ∃ a b c d e, nd = [a, b, c, d, e] := by
    match nd, l3 with
    | [a, b, c, d, e], _ => exact ⟨a, b, c, d, e, rfl⟩
  obtain ⟨x0, q0, bd0⟩ := b3 0 9 rfl
  obtain rfl : d0 = x0 := by simpa using q0
  have p3 : F__law_draw [.sc ns, .d (.int (w : Int)), .d (.list [.int 9, .int 40, .int 40, .int 64, .int 9])] = .ok (.ol [.int (d0 : Int), .int (d1 : Int), .int (d2 : Int), .int (d3 : Int), .int (d4 : Int)]) := p3
  obtain ⟨D, hD2, hD⟩ := depthM us r hu
  obtain ⟨t, hT⟩ := tabM_ok (r := r) hu (cf_nil us.length)
  have hwy : waysM us r [] = tabM us r [] := if_pos (Nat.zero_le _)
  have p1 := ways_ok us r [] hw hu (by omega) (by simp) (cf_nil _)
  rw [hwy] at p1
  have p1 : F__law_ways [.d (.tuple (encU us)), .d (.int (r : Int)), .d (.tuple [])] = _ := p1
  have hv := vals_D (tabM us r [])
  have hmx := max_D t.nodup hD ⟨[], (dst_zero t).mpr rfl⟩
  have k1 : 1 + ((D : Int) - 1) = (D : Int) := by omega
  have hg : dGet (encD (tabM us r [])) ts = (planM us r [] ts).map fun p => .int (p.length : Int) := dGet_D _ _
  have hkt := kd_tup ts
  have x0' : gIx (.d (encT us ts)) (.d (.int 0)) = .ok (.d (.tuple (encU us))) := rfl
  have x1' : gIx (.d (encT us ts)) (.d (.int 1)) = .ok (.d (tupD ts)) := rfl
  have lens : ∀ k, (levM (tabM us r []) k).length ≤ 300 := fun k => Nat.le_trans (lev_len k) (by omega)
  have hpos : 0 < D := hD.all _ _ ((dst_zero t).mpr rfl)
  obtain ⟨o, ho⟩ : ∃ o, o = planM us r [] ts := ⟨_, rfl⟩
  have hmany : manyO D o ≤ 256 ∧ 0 < manyO D o := by
    cases o with
    | none => exact ⟨hD2, hpos⟩
    | some p =>
      have few := planM_few hu (cf_nil us.length) ho.symm
      have l2 : 2 ^ us.length ≤ 2 ^ 8 := Nat.pow_le_pow_right (by omega) hu
      refine ⟨by show p.length ≤ 256; omega, ?_⟩
      show 0 < p.length
      cases p with
      | nil =>
        have : dst (tabM us r []) ts = some 0 := by unfold dst; rw [show tget (tabM us r []) ts = some [] from ho.symm]; rfl
        exact (hts ((dst_zero t).mp this)).elim
      | cons a p => simp
  rw [← ho] at hg
  obtain ⟨Ls, hLs⟩ : ∃ Ls, Ls = madeLs (tabM us r []) D o := ⟨_, rfl⟩
  have hlen : Ls.length = manyO D o := by rw [hLs]; unfold madeLs; rw [List.length_map, List.length_range]
  have hL : Lvs us Ls 300 300 := by
    refine ⟨fun z => ?_, by omega, fun l hl => ?_, fun l hl x hx => ?_⟩
    · have := congrArg List.length z
      rw [hlen, List.length_nil] at this
      omega
    · rw [hLs] at hl
      obtain ⟨k, _, rfl⟩ := List.mem_map.mp hl
      exact lens k
    · rw [hLs] at hl
      obtain ⟨k, _, rfl⟩ := List.mem_map.mp hl
      have := (lev_mem t.nodup).mp hx
      unfold dst at this
      cases z : tget (tabM us r []) x with
      | none => rw [z] at this; cases this
      | some p => exact tab_cfM hu (cf_nil _) _ (tget_mem z)
  have hLL : ((List.range (manyO D o)).map fun k => lstL (levM (tabM us r []) k)) = Ls.map lstL := by
    rw [hLs]
    unfold madeLs
    rw [List.map_map]
    rfl
  obtain ⟨k, hk⟩ : ∃ k, k = d1 % Ls.length := ⟨_, rfl⟩
  have lpos : 0 < Ls.length := by omega
  have hkl : k < Ls.length := by rw [hk]; exact Nat.mod_lt _ lpos
  have md : gMod (.d (.int (d1 : Int))) (.d (.int (Ls.length : Int))) = .ok (.d (.int (k : Int))) := by rw [hk]; exact e_modN d1 Ls.length lpos
  have hrg := e_R1n (n := manyO D o) (by omega)
  rw [rng_nat] at hrg
  have hlu : gLen [.d (.tuple (encU us))] = .ok (.d (.int (us.length : Int))) := by rw [e_lenT, encU_len]
  have hrn := e_R1n (n := us.length) (by omega)
  rw [rng_nat] at hrn
  have hnL : (Ls.map lstL).length = Ls.length := List.length_map ..
  have hodd := odd18_ok us.length hu6 d0 d1 d2 d3 d4
  have cs := sel_cf d3 us.length
  have hz5 : ((selI d3 us.length).map PyData.int).length ≤ 1000000 := by rw [List.length_map]; have := sel_len d3 us.length; omega
  have tup : PyData.tuple ((selI d3 us.length).map .int) = tupD (selI d3 us.length) := rfl
  have lo := fun (e8 e10 e11 e12 e14 : Option RV) => levs_out9 (tabM us r []) t.nodup hT [some (.sc ns), some (.d (.int (w : Int))), some (.d (encT us ts)), some (.d (.int (r : Int))), some (.ot (encD (tabM us r []))), some (.ol [.int (d0 : Int), .int (d1 : Int), .int (d2 : Int), .int (d3 : Int), .int (d4 : Int)]), some (.d (optI (lenO o))), some (.d (.int ((manyO D o : Nat) : Int))), e8, none, e10, e11, e12, none, e14] (by simp) rfl (manyO D o)
  rw [hLL] at lo
  have q45 : ∀ e7 e8 e9 e10 e11 e12 e13 e14, (sSeq kp_4 kp_5) [some (.sc ns), some (.d (.int (w : Int))), some (.d (encT us ts)), some (.d (.int (r : Int))), some (.ot (encD (tabM us r []))), some (.ol [.int (d0 : Int), .int (d1 : Int), .int (d2 : Int), .int (d3 : Int), .int (d4 : Int)]), some (.d .none), e7, e8, e9, e10, e11, e12, e13, e14] = .nx [some (.sc ns), some (.d (.int (w : Int))), some (.d (encT us ts)), some (.d (.int (r : Int))), some (.ot (encD (tabM us r []))), some (.ol [.int (d0 : Int), .int (d1 : Int), .int (d2 : Int), .int (d3 : Int), .int (d4 : Int)]), some (.d (optI (lenO o))), some (.d (.int ((manyO D o : Nat) : Int))), e8, e9, e10, e11, e12, e13, e14] := by
    intro e7 e8 e9 e10 e11 e12 e13 e14
    clear lo hodd
    cases o with
    | none =>
      have hg : dGet (encD (tabM us r [])) ts = none := hg
      have hO : optI (lenO none) = .none := rfl
      have hM : ((manyO D none : Nat) : Int) = (D : Int) := rfl
      rw [hO, hM]
      generalize (tabM us r []).map (fun e => (e.2.length : Int)) = MX at *
      generalize encD (tabM us r []) = TT at *
      generalize encT us ts = EE at *
      generalize tupD ts = GG at *
      unfold kp_4 kp_5
      simp only [e_nil, e_seq, e_fz, e_bk, e_ct, e_ret, e_retN, e_drop, e_set, e_if, e_for, e_cC, e_c2, e_c1, e_cA, e_aN, e_aC, e_cB, e_asB, e_bNot, e_bAnd, e_bOr, e_vAnd, e_vOr, e_vNot, e_vIf, e_bYes, e_iL, e_iT, e_iLb, e_iR, e_gL1, e_gL2, e_gL3, e_gT, e_gLb1, e_gLb2, e_gLb3, e_gLb4, e_nb1, e_nb2, e_bor1, e_bor2, e_bor3, e_bor4, e_arg1, e_arg2, e_arg3, e_arg4, e_putd, e_puto, e_toD1, e_toD2, e_allD0, e_allD1, e_allD2, e_gTupl, e_gList, e_tgnm, e_tgtp, e_tg0, e_tg1, e_sq1, e_sq2, e_sq3, e_sq4, e_sq5, e_qv2, e_qv3, e_qv4, e_qv5, e_data1, e_data2, e_data3, e_okI, e_okB, e_i2, e_sub, e_mul, e_mod, e_div, e_pow, e_lt, e_le, e_gt, e_ge, e_neg, e_addI, e_addS, e_addT, e_addL1, e_addL2, e_addL3, e_addL4, e_addL5, e_addL6, e_addL7, e_addL8, e_addL9, e_eq, e_ne, e_in, e_notIn, e_inT, e_inT2, e_inL1, e_inL2, e_inL3, e_is, e_isNot, e_isN1, e_isN2, e_isN3, e_isN4, e_isN5, e_isN6, e_isN7, e_ixT, e_ixL, e_ixO, e_ixB, e_ixSc, e_lenT, e_lenL, e_lenO, e_lenB, e_lenSc, e_lenS, e_tupT, e_tupL, e_tupO, e_tupB, e_lisT, e_lisL, e_lisO, e_lisB, e_min2, e_max2, e_any, e_all, e_sum, e_sorted, e_rev, e_sl, e_oN, e_isi, e_lc, e_wipe0, e_wipe1, e_iA, e_iAb, e_gAq1, e_gAq2, e_gAq3, e_gAqb1, e_gAqb2, e_gAqb3, e_gAqb4, e_no, e_cCh, e_cChI, e_aug, e_decT, e_decF, e_cDispS, e_cDT, e_cDK, e_cDisp1, e_storeA, e_stR1, e_stR2, e_stR3, e_sd1, e_keyD1, e_keyD2, e_keyTD, e_intsD, e_intsD0, e_borT, e_borT2, e_borK, e_borK2, e_argT, e_argT2, e_argK, e_argK2, e_nbT, e_nbK, e_putT, e_putK, e_gAt1, e_gAt2, e_gAt3, e_gAt4, e_gGetDK, e_gGetDT, e_gIxD, e_gInD, e_gNotInD, e_cGet1, e_cGet2, e_dk1, e_dk2, e_dk3, e_dk4, e_dt1, e_dt2, e_del, atI_zero, e_at1, e_at2, e_at3, e_at4, e_at5, e_at6, e_at7, e_at8, e_at9, e_atm, e_V, e_retV, e_unp, e_app, e_store, e_fzE, oS, rsO_some, Rs.bind_ok, Rs.bind_no, Rs.out_ok, Out.then_nx, Out.then_rt, Out.then_ct, Out.then_bk, fin_rt, fin_nx, List.getElem?_cons_zero, List.getElem?_cons_succ, List.set_cons_succ, List.set_cons_zero, List.length_cons, List.length_nil, Nat.reduceAdd, Nat.reduceLT, Nat.reduceLeDiff, Nat.reduceEqDiff, if_true, if_false, Bool.false_eq_true, Bool.not_true, Bool.not_false, and_self, true_and, and_true, List.map_cons, List.map_nil, Option.map_some, sh_int, sh_bool, sh_none, sh_tup, sh_lst, eqv_int, reduceIte, Option.bind_some, Option.bind_none, kitB_ll, kitB_lt, kitB_tt, kitB_tl, kitB_ii, tyD_list, tyD_int, Bool.true_and, Bool.false_and, Bool.and_true, Bool.and_false, Bool.or_true, Bool.true_or, Bool.false_or, Bool.or_false, Bool.and_self, Bool.or_self, e_cAK, List.append_nil, List.nil_append, List.cons_append, e_andB, e_orB, e_andR, e_orR, tyD_tuple, eqv_bool, eqv_none, tyD_bool, tyD_str, tyD_none, kitB_bb, kitB_nb, kitB_bi, kitB_ib, kitB_nl, kitB_nt, beq_self_eq_true, e_maxV, hv, hmx, k1, x1', hkt, hg, Option.isSome_none]
    | some p =>
      have hg : dGet (encD (tabM us r [])) ts = some (.int (p.length : Int)) := hg
      have hO : optI (lenO (some p)) = .int (p.length : Int) := rfl
      have hM : ((manyO D (some p) : Nat) : Int) = (p.length : Int) := rfl
      rw [hO, hM]
      generalize (p.length : Int) = PL at *
      generalize (tabM us r []).map (fun e => (e.2.length : Int)) = MX at *
      generalize encD (tabM us r []) = TT at *
      generalize encT us ts = EE at *
      generalize tupD ts = GG at *
      unfold kp_4 kp_5
      simp only [e_nil, e_seq, e_fz, e_bk, e_ct, e_ret, e_retN, e_drop, e_set, e_if, e_for, e_cC, e_c2, e_c1, e_cA, e_aN, e_aC, e_cB, e_asB, e_bNot, e_bAnd, e_bOr, e_vAnd, e_vOr, e_vNot, e_vIf, e_bYes, e_iL, e_iT, e_iLb, e_iR, e_gL1, e_gL2, e_gL3, e_gT, e_gLb1, e_gLb2, e_gLb3, e_gLb4, e_nb1, e_nb2, e_bor1, e_bor2, e_bor3, e_bor4, e_arg1, e_arg2, e_arg3, e_arg4, e_putd, e_puto, e_toD1, e_toD2, e_allD0, e_allD1, e_allD2, e_gTupl, e_gList, e_tgnm, e_tgtp, e_tg0, e_tg1, e_sq1, e_sq2, e_sq3, e_sq4, e_sq5, e_qv2, e_qv3, e_qv4, e_qv5, e_data1, e_data2, e_data3, e_okI, e_okB, e_i2, e_sub, e_mul, e_mod, e_div, e_pow, e_lt, e_le, e_gt, e_ge, e_neg, e_addI, e_addS, e_addT, e_addL1, e_addL2, e_addL3, e_addL4, e_addL5, e_addL6, e_addL7, e_addL8, e_addL9, e_eq, e_ne, e_in, e_notIn, e_inT, e_inT2, e_inL1, e_inL2, e_inL3, e_is, e_isNot, e_isN1, e_isN2, e_isN3, e_isN4, e_isN5, e_isN6, e_isN7, e_ixT, e_ixL, e_ixO, e_ixB, e_ixSc, e_lenT, e_lenL, e_lenO, e_lenB, e_lenSc, e_lenS, e_tupT, e_tupL, e_tupO, e_tupB, e_lisT, e_lisL, e_lisO, e_lisB, e_min2, e_max2, e_any, e_all, e_sum, e_sorted, e_rev, e_sl, e_oN, e_isi, e_lc, e_wipe0, e_wipe1, e_iA, e_iAb, e_gAq1, e_gAq2, e_gAq3, e_gAqb1, e_gAqb2, e_gAqb3, e_gAqb4, e_no, e_cCh, e_cChI, e_aug, e_decT, e_decF, e_cDispS, e_cDT, e_cDK, e_cDisp1, e_storeA, e_stR1, e_stR2, e_stR3, e_sd1, e_keyD1, e_keyD2, e_keyTD, e_intsD, e_intsD0, e_borT, e_borT2, e_borK, e_borK2, e_argT, e_argT2, e_argK, e_argK2, e_nbT, e_nbK, e_putT, e_putK, e_gAt1, e_gAt2, e_gAt3, e_gAt4, e_gGetDK, e_gGetDT, e_gIxD, e_gInD, e_gNotInD, e_cGet1, e_cGet2, e_dk1, e_dk2, e_dk3, e_dk4, e_dt1, e_dt2, e_del, atI_zero, e_at1, e_at2, e_at3, e_at4, e_at5, e_at6, e_at7, e_at8, e_at9, e_atm, e_V, e_retV, e_unp, e_app, e_store, e_fzE, oS, rsO_some, Rs.bind_ok, Rs.bind_no, Rs.out_ok, Out.then_nx, Out.then_rt, Out.then_ct, Out.then_bk, fin_rt, fin_nx, List.getElem?_cons_zero, List.getElem?_cons_succ, List.set_cons_succ, List.set_cons_zero, List.length_cons, List.length_nil, Nat.reduceAdd, Nat.reduceLT, Nat.reduceLeDiff, Nat.reduceEqDiff, if_true, if_false, Bool.false_eq_true, Bool.not_true, Bool.not_false, and_self, true_and, and_true, List.map_cons, List.map_nil, Option.map_some, sh_int, sh_bool, sh_none, sh_tup, sh_lst, eqv_int, reduceIte, Option.bind_some, Option.bind_none, kitB_ll, kitB_lt, kitB_tt, kitB_tl, kitB_ii, tyD_list, tyD_int, Bool.true_and, Bool.false_and, Bool.and_true, Bool.and_false, Bool.or_true, Bool.true_or, Bool.false_or, Bool.or_false, Bool.and_self, Bool.or_self, e_cAK, List.append_nil, List.nil_append, List.cons_append, e_andB, e_orB, e_andR, e_orR, tyD_tuple, eqv_bool, eqv_none, tyD_bool, tyD_str, tyD_none, kitB_bb, kitB_nb, kitB_bi, kitB_ib, kitB_nl, kitB_nt, beq_self_eq_true, e_maxV, hv, hmx, k1, x1', hkt, hg, Option.isSome_some]
  have hh := head18 ns w r d0 d1 d2 d3 d4 k us.length (manyO D o) Ls.length (encT us ts) (.tuple (encU us)) (tupD ts) (optI (lenO o)) (tupD (selI d3 us.length)) (encD (tabM us r [])) (Ls.map lstL) ((selI d3 us.length).map .int) hu6 x0' p1 p3 q45 hrg (by omega) lo hnL md hlu hrn hodd hz5 tup
  obtain ⟨r', m', Ls', e12', hr', hL', hchg⟩ := chg_ok us (some (.sc ns)) (some (.d (.int (w : Int)))) (some (.d (encT us ts))) (some (.ot (encD (tabM us r [])))) (some (.d (.int ((manyO D o : Nat) : Int)))) (some (.ol [.int 1, .int 2, .int 4, .int 8, .int 16, .int 32])) none none none r hr d0 d1 d2 d3 d4 bd0 (lenO o) Ls hL k hkl (selI d3 us.length) cs
  refine ⟨r', m', Ls', hr', hL', ?_⟩
  show (B__law_paper [some (.sc ns), some (.d (.int (w : Int))), some (.d (encT us ts)), some (.d (.int (r : Int))), none, none, none, none, none, none, none, none, none, none, none]).fin = _
  rw [hh, e_seq, hchg, Out.then_nx]
  have hlc := lc_lev [some (.sc ns), some (.d (.int (w : Int))), some (.d (encT us ts)), some (.d (.int (r' : Int))), some (.ot (encD (tabM us r []))), some (.ol [.int (d0 : Int), .int (d1 : Int), .int (d2 : Int), .int (d3 : Int), .int (d4 : Int)]), some (.d (optI m')), some (.d (.int ((manyO D o : Nat) : Int))), some (.ol (Ls'.map lstL)), some (.d (.int (k : Int))), some (.ol [.int 1, .int 2, .int 4, .int 8, .int 16, .int 32]), some (.d (tupD (selI d3 us.length))), e12', none, none] 14 (by simp) Ls' (fun l hl => Nat.le_trans (hL'.row l hl) (by omega))
  have hP : PyData.tuple [.int (r' : Int), optI m', .tuple (Ls'.map levD)] = paperD r' m' Ls' := rfl
  have hz1 : (Ls'.map lstL).length ≤ 1000000 := by rw [List.length_map]; have := hL'.len; omega
  have hz2 : (Ls'.map levD).length ≤ 1000000 := by rw [List.length_map]; have := hL'.len; omega
  clear hh q45 lo hodd hchg
  generalize paperD r' m' Ls' = PP at *
  generalize Ls'.map levD = LV at *
  generalize Ls'.map lstL = LL at *
  generalize encD (tabM us r []) = TT at *
  generalize encT us ts = EE at *
  generalize tupD (selI d3 us.length) = OO at *
  generalize optI m' = MM at *
  unfold kp_r
  simp only [e_nil, e_seq, e_fz, e_bk, e_ct, e_ret, e_retN, e_drop, e_set, e_if, e_for, e_cC, e_c2, e_c1, e_cA, e_aN, e_aC, e_cB, e_asB, e_bNot, e_bAnd, e_bOr, e_vAnd, e_vOr, e_vNot, e_vIf, e_bYes, e_iL, e_iT, e_iLb, e_iR, e_gL1, e_gL2, e_gL3, e_gT, e_gLb1, e_gLb2, e_gLb3, e_gLb4, e_nb1, e_nb2, e_bor1, e_bor2, e_bor3, e_bor4, e_arg1, e_arg2, e_arg3, e_arg4, e_putd, e_puto, e_toD1, e_toD2, e_allD0, e_allD1, e_allD2, e_gTupl, e_gList, e_tgnm, e_tgtp, e_tg0, e_tg1, e_sq1, e_sq2, e_sq3, e_sq4, e_sq5, e_qv2, e_qv3, e_qv4, e_qv5, e_data1, e_data2, e_data3, e_okI, e_okB, e_i2, e_sub, e_mul, e_mod, e_div, e_pow, e_lt, e_le, e_gt, e_ge, e_neg, e_addI, e_addS, e_addT, e_addL1, e_addL2, e_addL3, e_addL4, e_addL5, e_addL6, e_addL7, e_addL8, e_addL9, e_eq, e_ne, e_in, e_notIn, e_inT, e_inT2, e_inL1, e_inL2, e_inL3, e_is, e_isNot, e_isN1, e_isN2, e_isN3, e_isN4, e_isN5, e_isN6, e_isN7, e_ixT, e_ixL, e_ixO, e_ixB, e_ixSc, e_lenT, e_lenL, e_lenO, e_lenB, e_lenSc, e_lenS, e_tupT, e_tupL, e_tupO, e_tupB, e_lisT, e_lisL, e_lisO, e_lisB, e_min2, e_max2, e_any, e_all, e_sum, e_sorted, e_rev, e_sl, e_oN, e_isi, e_lc, e_wipe0, e_wipe1, e_iA, e_iAb, e_gAq1, e_gAq2, e_gAq3, e_gAqb1, e_gAqb2, e_gAqb3, e_gAqb4, e_no, e_cCh, e_cChI, e_aug, e_decT, e_decF, e_cDispS, e_cDT, e_cDK, e_cDisp1, e_storeA, e_stR1, e_stR2, e_stR3, e_sd1, e_keyD1, e_keyD2, e_keyTD, e_intsD, e_intsD0, e_borT, e_borT2, e_borK, e_borK2, e_argT, e_argT2, e_argK, e_argK2, e_nbT, e_nbK, e_putT, e_putK, e_gAt1, e_gAt2, e_gAt3, e_gAt4, e_gGetDK, e_gGetDT, e_gIxD, e_gInD, e_gNotInD, e_cGet1, e_cGet2, e_dk1, e_dk2, e_dk3, e_dk4, e_dt1, e_dt2, e_del, atI_zero, e_at1, e_at2, e_at3, e_at4, e_at5, e_at6, e_at7, e_at8, e_at9, e_atm, e_V, e_retV, e_unp, e_app, e_store, e_fzE, oS, rsO_some, Rs.bind_ok, Rs.bind_no, Rs.out_ok, Out.then_nx, Out.then_rt, Out.then_ct, Out.then_bk, fin_rt, fin_nx, List.getElem?_cons_zero, List.getElem?_cons_succ, List.set_cons_succ, List.set_cons_zero, List.length_cons, List.length_nil, Nat.reduceAdd, Nat.reduceLT, Nat.reduceLeDiff, Nat.reduceEqDiff, if_true, if_false, Bool.false_eq_true, Bool.not_true, Bool.not_false, and_self, true_and, and_true, List.map_cons, List.map_nil, Option.map_some, sh_int, sh_bool, sh_none, sh_tup, sh_lst, eqv_int, reduceIte, Option.bind_some, Option.bind_none, kitB_ll, kitB_lt, kitB_tt, kitB_tl, kitB_ii, tyD_list, tyD_int, Bool.true_and, Bool.false_and, Bool.and_true, Bool.and_false, Bool.or_true, Bool.true_or, Bool.false_or, Bool.or_false, Bool.and_self, Bool.or_self, e_cAK, List.append_nil, List.nil_append, List.cons_append, e_andB, e_orB, e_andR, e_orR, tyD_tuple, eqv_bool, eqv_none, tyD_bool, tyD_str, tyD_none, kitB_bb, kitB_nb, kitB_bi, kitB_ib, kitB_nl, kitB_nt, beq_self_eq_true, e_iAb, if_pos hz1, if_pos hz2, hlc, hP]
theorem w1_ok : PyData.strOk "start" = true := by decide +kernel
theorem w2_ok : PyData.strOk "count" = true := by decide +kernel
theorem w3_ok : PyData.strOk "target" = true := by decide +kernel
theorem w4_ok : PyData.strOk "step" = true := by decide +kernel
theorem tupD_nice (x : List Int) : Nice 1 (tupD x) := Nice.tup fun e he => by
  obtain ⟨i, _, rfl⟩ := List.mem_map.mp he
  exact Nice.int 0 _
theorem findSome_prop {α β : Type} (P : β → Prop) (g : α → Option β) : ∀ xs : List α, (∀ x ∈ xs, ∀ d, g x = some d → P d) → ∀ d, xs.findSome? g = some d → P d
  | [], _, d, e => by cases e
  | x :: xs, h, d, e => by
    rw [List.findSome?_cons] at e
    cases z : g x with
    | some y => rw [z] at e; cases e; exact h x List.mem_cons_self _ z
    | none => rw [z] at e; exact findSome_prop P g xs (fun y hy => h y (List.mem_cons_of_mem _ hy)) d e
theorem flawP_nice (us : List (List Int)) (r : Nat) (ts : List Int) (m : Option Int) (Ls : List (List (List Int))) : Nice 3 (flawP us r ts m Ls) := by
  have one : ∀ {s : Str}, PyData.strOk s = true → Nice 3 (.tuple [.str s]) := fun h => Nice.up (k := 1) (Nice.tup fun e he => by
    rw [List.mem_singleton.mp he]; exact Nice.str 0 h) (by decide)
  unfold flawP
  split
  · exact one w1_ok
  · split
    · exact one w2_ok
    · cases z : (List.range Ls.length).findSome? (tgtM ts Ls) with
      | some d =>
        refine findSome_prop (Nice 3) _ _ (fun k _ d h => ?_) d z
        unfold tgtM at h
        split at h
        · cases h
          refine Nice.up (k := 1) (Nice.tup fun e he => ?_) (by decide)
          simp only [List.mem_cons, List.not_mem_nil, or_false] at he
          rcases he with rfl | rfl
          · exact Nice.str 0 w3_ok
          · exact Nice.int 0 _
        · cases h
      | none =>
        cases z2 : (List.range (lastN m Ls.length)).findSome? (stpM us r Ls) with
        | none => exact Nice.up (Nice.none 0) (by decide)
        | some d =>
          refine findSome_prop (Nice 3) _ _ (fun k _ d h => ?_) d z2
          unfold stpM at h
          refine findSome_prop (Nice 3) _ _ (fun x _ d h => ?_) d h
          refine findSome_prop (Nice 3) _ _ (fun y _ d h => ?_) d h
          split at h
          · cases h
          · cases h
            refine Nice.up (k := 2) (Nice.tup fun e he => ?_) (by decide)
            simp only [List.mem_cons, List.not_mem_nil, or_false] at he
            rcases he with rfl | rfl | rfl | rfl
            · exact Nice.up (Nice.str 0 w4_ok) (by decide)
            · exact Nice.up (Nice.int 0 _) (by decide)
            · exact tupD_nice x
            · exact Nice.up (Nice.int 0 _) (by decide)
theorem is_right_ok (us : List (List Int)) (ts : List Int) (r : Nat) (hu : us.length ≤ 8) (m : Option Int) (Ls : List (List (List Int))) (hcf : ∀ l ∈ Ls, ∀ h ∈ l, Cf us.length h) (hl : Ls.length ≤ 1000) (hne : Ls ≠ []) : F_is_right [.d (encT us ts), .d (paperD r m Ls)] = .ok (.d (.bool (isNone (.d (flawP us r ts m Ls))))) := by
  have p1 := flaw_ok us ts r hu m Ls hcf hl hne
  show (B_is_right [some (.d (encT us ts)), some (.d (paperD r m Ls))]).fin = _
  unfold B_is_right
  generalize flawP us r ts m Ls = F at *
  generalize paperD r m Ls = P at *
  generalize encT us ts = EE at *
  simp only [e_nil, e_seq, e_fz, e_bk, e_ct, e_ret, e_retN, e_drop, e_set, e_if, e_for, e_cC, e_c2, e_c1, e_cA, e_aN, e_aC, e_cB, e_asB, e_bNot, e_bAnd, e_bOr, e_vAnd, e_vOr, e_vNot, e_vIf, e_bYes, e_iL, e_iT, e_iLb, e_iR, e_gL1, e_gL2, e_gL3, e_gT, e_gLb1, e_gLb2, e_gLb3, e_gLb4, e_nb1, e_nb2, e_bor1, e_bor2, e_bor3, e_bor4, e_arg1, e_arg2, e_arg3, e_arg4, e_putd, e_puto, e_toD1, e_toD2, e_allD0, e_allD1, e_allD2, e_gTupl, e_gList, e_tgnm, e_tgtp, e_tg0, e_tg1, e_sq1, e_sq2, e_sq3, e_sq4, e_sq5, e_qv2, e_qv3, e_qv4, e_qv5, e_data1, e_data2, e_data3, e_okI, e_okB, e_i2, e_sub, e_mul, e_mod, e_div, e_pow, e_lt, e_le, e_gt, e_ge, e_neg, e_addI, e_addS, e_addT, e_addL1, e_addL2, e_addL3, e_addL4, e_addL5, e_addL6, e_addL7, e_addL8, e_addL9, e_eq, e_ne, e_in, e_notIn, e_inT, e_inT2, e_inL1, e_inL2, e_inL3, e_is, e_isNot, e_isN1, e_isN2, e_isN3, e_isN4, e_isN5, e_isN6, e_isN7, e_ixT, e_ixL, e_ixO, e_ixB, e_ixSc, e_lenT, e_lenL, e_lenO, e_lenB, e_lenSc, e_lenS, e_tupT, e_tupL, e_tupO, e_tupB, e_lisT, e_lisL, e_lisO, e_lisB, e_min2, e_max2, e_any, e_all, e_sum, e_sorted, e_rev, e_sl, e_oN, e_isi, e_lc, e_wipe0, e_wipe1, e_iA, e_iAb, e_gAq1, e_gAq2, e_gAq3, e_gAqb1, e_gAqb2, e_gAqb3, e_gAqb4, e_no, e_cCh, e_cChI, e_aug, e_decT, e_decF, e_cDispS, e_cDT, e_cDK, e_cDisp1, e_storeA, e_stR1, e_stR2, e_stR3, e_sd1, e_keyD1, e_keyD2, e_keyTD, e_intsD, e_intsD0, e_borT, e_borT2, e_borK, e_borK2, e_argT, e_argT2, e_argK, e_argK2, e_nbT, e_nbK, e_putT, e_putK, e_gAt1, e_gAt2, e_gAt3, e_gAt4, e_gGetDK, e_gGetDT, e_gIxD, e_gInD, e_gNotInD, e_cGet1, e_cGet2, e_dk1, e_dk2, e_dk3, e_dk4, e_dt1, e_dt2, e_del, atI_zero, e_at1, e_at2, e_at3, e_at4, e_at5, e_at6, e_at7, e_at8, e_at9, e_atm, e_V, e_retV, e_unp, e_app, e_store, e_fzE, oS, rsO_some, Rs.bind_ok, Rs.bind_no, Rs.out_ok, Out.then_nx, Out.then_rt, Out.then_ct, Out.then_bk, fin_rt, fin_nx, List.getElem?_cons_zero, List.getElem?_cons_succ, List.set_cons_succ, List.set_cons_zero, List.length_cons, List.length_nil, Nat.reduceAdd, Nat.reduceLT, Nat.reduceLeDiff, Nat.reduceEqDiff, if_true, if_false, Bool.false_eq_true, Bool.not_true, Bool.not_false, and_self, true_and, and_true, List.map_cons, List.map_nil, Option.map_some, sh_int, sh_bool, sh_none, sh_tup, sh_lst, eqv_int, reduceIte, Option.bind_some, Option.bind_none, kitB_ll, kitB_lt, kitB_tt, kitB_tl, kitB_ii, tyD_list, tyD_int, Bool.true_and, Bool.false_and, Bool.and_true, Bool.and_false, Bool.or_true, Bool.true_or, Bool.false_or, Bool.or_false, Bool.and_self, Bool.or_self, e_cAK, List.append_nil, List.nil_append, List.cons_append, e_andB, e_orB, e_andR, e_orR, tyD_tuple, eqv_bool, eqv_none, tyD_bool, tyD_str, tyD_none, kitB_bb, kitB_nb, kitB_bi, kitB_ib, kitB_nl, kitB_nt, beq_self_eq_true, p1]
/-! ### right certificates are true -/
def stepB (us : List (List Int)) (r : Nat) (Ls : List (List (List Int))) (k : Nat) : Bool := (Ls.getD k []).all fun h => (succM us r h).all fun e => inLs (Ls.take (k + 2)) e.2
def rightB (us : List (List Int)) (r : Nat) (ts : List Int) (m : Option Int) (Ls : List (List (List Int))) : Bool :=
  decide ([] ∈ Ls.getD 0 []) && !inLs Ls ts && cntB m Ls.length && (List.range (lastN m Ls.length)).all (stepB us r Ls)
theorem flaw_right (us : List (List Int)) (r : Nat) (ts : List Int) (m : Option Int) (Ls : List (List (List Int))) : isNone (.d (flawP us r ts m Ls)) = rightB us r ts m Ls := by
  have one : ∀ s : PyData, isNone (.d (.tuple [s])) = false := fun _ => rfl
  unfold flawP rightB
  by_cases c1 : [] ∈ Ls.getD 0 []
  · rw [if_neg (fun z => z c1), decide_eq_true c1, Bool.true_and]
    cases c2 : cntB m Ls.length with
    | false => rw [if_pos rfl, Bool.and_false, Bool.false_and]; rfl
    | true =>
      rw [if_neg (by simp), Bool.and_true]
      cases z : (List.range Ls.length).findSome? (tgtM ts Ls) with
      | some d =>
        have hd : isNone (.d d) = false := findSome_prop (fun d => isNone (.d d) = false) _ _ (fun k _ d h => by
          unfold tgtM at h
          split at h
          · cases h; rfl
          · cases h) d z
        obtain ⟨k, hk, e⟩ := List.exists_of_findSome?_eq_some z
        have hk := List.mem_range.mp hk
        have hin : inLs Ls ts = true := by
          unfold tgtM at e
          split at e
          · rename_i hm
            unfold inLs
            rw [List.any_eq_true]
            rw [List.getD_eq_getElem?_getD, List.getElem?_eq_getElem hk] at hm
            exact ⟨_, List.getElem_mem hk, decide_eq_true hm⟩
          · cases e
        rw [hin]
        exact hd
      | none =>
        have hin : inLs Ls ts = false := by
          cases q : inLs Ls ts with
          | false => rfl
          | true =>
            exfalso
            unfold inLs at q
            obtain ⟨l, hl, hx⟩ := List.any_eq_true.mp q
            obtain ⟨k, hk, rfl⟩ := List.getElem_of_mem hl
            have := List.findSome?_eq_none_iff.mp z k (List.mem_range.mpr hk)
            unfold tgtM at this
            rw [List.getD_eq_getElem?_getD, List.getElem?_eq_getElem hk] at this
            have hx := of_decide_eq_true hx
            rw [show (some Ls[k]).getD [] = Ls[k] from rfl, if_pos hx] at this
            cases this
        rw [hin, Bool.not_false, Bool.true_and]
        have stp : ∀ k, stpM us r Ls k = none ↔ stepB us r Ls k = true := fun k => by
          unfold stpM stepB
          rw [List.findSome?_eq_none_iff, List.all_eq_true]
          constructor
          · intro h x hx
            have := h x hx
            rw [List.findSome?_eq_none_iff] at this
            rw [List.all_eq_true]
            intro e he
            have := this e he
            cases q : inLs (Ls.take (k + 2)) e.2 with
            | true => rfl
            | false => rw [q, if_neg Bool.false_ne_true] at this; cases this
          · intro h x hx
            have := List.all_eq_true.mp (h x hx)
            rw [List.findSome?_eq_none_iff]
            intro e he
            rw [if_pos (this e he)]
        cases z2 : (List.range (lastN m Ls.length)).findSome? (stpM us r Ls) with
        | none =>
          have h := List.findSome?_eq_none_iff.mp z2
          have : (List.range (lastN m Ls.length)).all (stepB us r Ls) = true := List.all_eq_true.mpr fun k hk => (stp k).mp (h k hk)
          rw [this]
          rfl
        | some d =>
          have hd : isNone (.d d) = false := findSome_prop (fun d => isNone (.d d) = false) _ _ (fun k _ d h => by
            unfold stpM at h
            refine findSome_prop (fun d => isNone (.d d) = false) _ _ (fun x _ d h => ?_) d h
            refine findSome_prop (fun d => isNone (.d d) = false) _ _ (fun y _ d h => ?_) d h
            split at h
            · cases h
            · cases h; rfl) d z2
          have : (List.range (lastN m Ls.length)).all (stepB us r Ls) = false := by
            cases q : (List.range (lastN m Ls.length)).all (stepB us r Ls) with
            | false => rfl
            | true =>
              have h := List.all_eq_true.mp q
              have : (List.range (lastN m Ls.length)).findSome? (stpM us r Ls) = none := List.findSome?_eq_none_iff.mpr fun k hk => (stp k).mpr (h k hk)
              rw [this] at z2
              cases z2
          rw [this]
          exact hd
  · rw [if_pos c1, decide_eq_false c1]
    rfl
theorem inLs_take {T : List (List Int × List Int)} {n k : Nat} {x : List Int} {j : Nat} (t : (T.map (·.1)).Nodup) (h : dst T x = some j) (h1 : j < n) (h2 : j < k) : inLs (((List.range n).map (levM T)).take k) x = true := by
  unfold inLs
  rw [List.any_eq_true]
  refine ⟨levM T j, ?_, decide_eq_true ((lev_mem t).mpr h)⟩
  rw [← List.map_take, List.take_range]
  exact List.mem_map.mpr ⟨j, List.mem_range.mpr (by omega), rfl⟩
theorem made_right (us : List (List Int)) (ts : List Int) (r : Nat) (hu : us.length ≤ 8) (hne : ts ≠ []) {D : Nat} (hD : Depth (tabM us r []) D) : madeLs (tabM us r []) D (planM us r [] ts) ≠ [] ∧ rightB us r ts (lenO (planM us r [] ts)) (madeLs (tabM us r []) D (planM us r [] ts)) = true := by
  obtain ⟨t, hT⟩ := tabM_ok (r := r) hu (cf_nil us.length)
  have h0 : dst (tabM us r []) [] = some 0 := (dst_zero t).mpr rfl
  have hD0 := hD.all _ _ h0
  obtain ⟨o, ho⟩ : ∃ o, o = planM us r [] ts := ⟨_, rfl⟩
  have hdts : dst (tabM us r []) ts = o.map List.length := by rw [ho]; rfl
  rw [← ho]
  have hn1 : 0 < manyO D o := by
    cases o with
    | none => exact hD0
    | some p =>
      have : p ≠ [] := fun z => by
        subst z
        exact hne ((dst_zero t).mp hdts)
      exact List.length_pos_iff.mpr this
  have hnD : manyO D o ≤ D := by
    cases o with
    | none => exact Nat.le_refl _
    | some p => exact Nat.le_of_lt (hD.all _ _ hdts)
  have lL : (madeLs (tabM us r []) D o).length = manyO D o := by unfold madeLs; rw [List.length_map, List.length_range]
  have getk : ∀ k, k < manyO D o → (madeLs (tabM us r []) D o).getD k [] = levM (tabM us r []) k := fun k hk => by
    unfold madeLs
    rw [List.getD_eq_getElem?_getD, List.getElem?_map, List.getElem?_range hk]
    rfl
  refine ⟨fun z => by rw [z] at lL; simp at lL; omega, ?_⟩
  unfold rightB
  rw [Bool.and_eq_true, Bool.and_eq_true, Bool.and_eq_true]
  refine ⟨⟨⟨?_, ?_⟩, ?_⟩, ?_⟩
  · rw [decide_eq_true_eq, getk 0 hn1]
    exact (lev_mem t.nodup).mpr h0
  · rw [Bool.not_eq_true']
    cases z : inLs (madeLs (tabM us r []) D o) ts with
    | false => rfl
    | true =>
      exfalso
      unfold inLs madeLs at z
      obtain ⟨l, hl, hx⟩ := List.any_eq_true.mp z
      obtain ⟨k, hk, rfl⟩ := List.mem_map.mp hl
      have hk := List.mem_range.mp hk
      have := (lev_mem t.nodup).mp (of_decide_eq_true hx)
      rw [hdts] at this
      cases o with
      | none => cases this
      | some p =>
        injection this with this
        have hk : k < p.length := hk
        omega
  · rw [lL]
    cases o with
    | none => rfl
    | some p => exact decide_eq_true rfl
  · rw [List.all_eq_true]
    intro k hk
    have hk := List.mem_range.mp hk
    rw [lL] at hk
    have hk2 : k < manyO D o := by
      cases o with
      | none => exact hk
      | some p => have hk : k < p.length - 1 := hk; show k < p.length; omega
    unfold stepB
    rw [getk k hk2, List.all_eq_true]
    intro h hh
    rw [List.all_eq_true]
    rintro ⟨s, d⟩ hs
    obtain ⟨j, hj, hj2⟩ := dst_succ t ((lev_mem t.nodup).mp hh) hs
    refine inLs_take t.nodup hj ?_ (by omega)
    cases o with
    | none => exact hD.all _ _ hj
    | some p => have hk : k < p.length - 1 := hk; show j < p.length; omega
theorem inLs_mono {Ls : List (List (List Int))} {a b : Nat} (hab : a ≤ b) {x : List Int} (h : inLs (Ls.take a) x = true) : inLs (Ls.take b) x = true := by
  unfold inLs at h ⊢
  rw [List.any_eq_true] at h ⊢
  obtain ⟨l, hl, hx⟩ := h
  refine ⟨l, ?_, hx⟩
  have : Ls.take a = (Ls.take b).take a := by rw [List.take_take, Nat.min_eq_left hab]
  rw [this] at hl
  exact List.mem_of_mem_take hl
theorem inLs_all {Ls : List (List (List Int))} {a : Nat} {x : List Int} (h : inLs (Ls.take a) x = true) : inLs Ls x = true := by
  unfold inLs at h ⊢
  rw [List.any_eq_true] at h ⊢
  obtain ⟨l, hl, hx⟩ := h
  exact ⟨l, List.mem_of_mem_take hl, hx⟩
theorem inLs_ix {Ls : List (List (List Int))} {a : Nat} {x : List Int} (h : inLs (Ls.take a) x = true) : ∃ k, k < a ∧ k < Ls.length ∧ x ∈ Ls.getD k [] := by
  unfold inLs at h
  obtain ⟨l, hl, hx⟩ := List.any_eq_true.mp h
  obtain ⟨k, hk, rfl⟩ := List.getElem_of_mem hl
  rw [List.length_take] at hk
  refine ⟨k, by omega, by omega, ?_⟩
  have hx := of_decide_eq_true hx
  rw [List.getElem_take] at hx
  rw [List.getD_eq_getElem?_getD, List.getElem?_eq_getElem (by omega)]
  exact hx
theorem right_true {us : List (List Int)} {ts : List Int} {r : Nat} (hu : us.length ≤ 8) {m : Option Int} {Ls : List (List (List Int))} (h : rightB us r ts m Ls = true) {j : Nat} (hj : dst (tabM us r []) ts = some j) : ∃ k, m = some k ∧ k ≤ j := by
  obtain ⟨t, hT⟩ := tabM_ok (r := r) hu (cf_nil us.length)
  unfold rightB at h
  rw [Bool.and_eq_true, Bool.and_eq_true, Bool.and_eq_true] at h
  obtain ⟨⟨⟨h1, h2⟩, h3⟩, h4⟩ := h
  rw [List.all_eq_true] at h4
  have h1 := of_decide_eq_true h1
  rw [Bool.not_eq_true'] at h2
  have hpos : 0 < Ls.length := by
    cases Ls with
    | nil => cases h1
    | cons _ _ => simp
  have main : ∀ (p : List Int) (c : List Int), Path (succM us r) [] p c → (m = none ∨ p.length ≤ lastN m Ls.length) → inLs (Ls.take (p.length + 1)) c = true := by
    intro p c hp
    induction hp with
    | nil =>
      intro _
      unfold inLs
      rw [List.any_eq_true]
      refine ⟨Ls.getD 0 [], ?_, decide_eq_true h1⟩
      cases Ls with
      | nil => cases h1
      | cons a l => simp
    | @snoc p c d l hp hs ih =>
      intro hm
      rw [List.length_append, List.length_singleton] at hm ⊢
      obtain ⟨k, k1, k2, k3⟩ := inLs_ix (ih (hm.imp id (by omega)))
      have hk : k < lastN m Ls.length := by
        rcases hm with rfl | hm
        · exact k2
        · omega
      have st := h4 k (List.mem_range.mpr hk)
      unfold stepB at st
      have st := List.all_eq_true.mp (List.all_eq_true.mp st c k3) _ hs
      exact inLs_mono (by omega) st
  obtain ⟨p, hp, e⟩ := dst_sound t hj
  cases m with
  | none =>
    have := inLs_all (main p ts hp (.inl rfl))
    rw [h2] at this
    cases this
  | some k =>
    refine ⟨k, rfl, ?_⟩
    have h3 : k = (Ls.length : Int) := of_decide_eq_true h3
    by_cases c : k ≤ j
    · exact c
    · have := inLs_all (main p ts hp (.inr (by show p.length ≤ Ls.length - 1; omega)))
      rw [h2] at this
      cases this
theorem law_holds (ns : List Int) (h : ns.length ≤ 63) : F_law [.sc ns] = .ok (.d (.bool true)) := by
  obtain ⟨tm, hm, hr⟩ := turns ns h 4 10 (by omega) (by omega) (by omega) (by omega) [some (.sc ns), none, none, none, none, none, none, none] rfl
  obtain ⟨env', e1, j1, j2, j3, j4, j5, j6, j7, rfl⟩ := loopF_ex (tg := .nm 1) (f := L0_law) (fun i env => ∃ j1 j2 j3 j4 j5 j6 j7, env = [some (.sc ns), j1, j2, j3, j4, j5, j6, j7]) natI (List.range tm) [some (.sc ns), none, none, none, none, none, none, none] (by
    rintro i env w hx ⟨j1, j2, j3, j4, j5, j6, j7, rfl⟩
    refine ⟨[some (.sc ns), some (.d (.int w)), j2, j3, j4, j5, j6, j7], rfl, ?_⟩
    have mulOk : (10 : Int).natAbs < 18446744073709551616 ∨ ((w : Int)).natAbs < 18446744073709551616 := .inl (by decide)
    obtain ⟨us, ts, p2, wf⟩ := task_ok ns (10 * w) 6 (by omega) (by omega)
    obtain ⟨d1, p1, b1⟩ := draw1 ns (10 * w + 7) 7 (by omega)
    have hu6 := wf.len
    have hu : us.length ≤ 8 := by omega
    have hw := wf_use wf (by omega)
    have k0 : 10 * (w : Int) = ((10 * w : Nat) : Int) := by omega
    have k7 : ((10 * w : Nat) : Int) + 7 = ((10 * w + 7 : Nat) : Int) := by omega
    have k8 : ((10 * w : Nat) : Int) + 8 = ((10 * w + 8 : Nat) : Int) := by omega
    have p1 : F__law_draw [.sc ns, .d (.int ((10 * w + 7 : Nat) : Int)), .d (.list [.int 7])] = .ok (.ol [.int d1]) := p1
    have p2 : F__law_task [.sc ns, .d (.int ((10 * w : Nat) : Int)), .d (.int 6)] = .ok (.d (encT us ts)) := p2
    obtain ⟨r, hrr⟩ : ∃ r : Nat, r = 1 + d1 := ⟨_, rfl⟩
    have kr : 1 + (d1 : Int) = (r : Int) := by omega
    obtain ⟨r', m', Ls, hr', hL, p3⟩ := paper_ok ns (10 * w + 8) us ts r (by omega) hu6 hw wf.some
    have lz := hL.len
    have p6 := is_right_ok us ts r' hu m' Ls hL.cf (by omega) hL.ne
    rw [flaw_right] at p6
    have sound := fun h j hj => right_true (us := us) (ts := ts) (r := r') hu (m := m') (Ls := Ls) h (j := j) hj
    have hwy : waysM us r' [] = tabM us r' [] := if_pos (Nat.zero_le _)
    have p4 := ways_ok us r' [] hw hu (by omega) (by simp) (cf_nil _)
    rw [hwy] at p4
    have p4 : F__law_ways [.d (.tuple (encU us)), .d (.int (r' : Int)), .d (.tuple [])] = _ := p4
    have hkt := kd_tup ts
    have hg : dGet (encD (tabM us r' [])) ts = (dst (tabM us r' []) ts).map fun n : Nat => .int (n : Int) := by
      rw [dGet_D]
      unfold dst
      rw [Option.map_map]
      rfl
    have x0 : gIx (.d (encT us ts)) (.d (.int 0)) = .ok (.d (.tuple (encU us))) := rfl
    have x1 : gIx (.d (encT us ts)) (.d (.int 1)) = .ok (.d (tupD ts)) := rfl
    have y0 : gIx (.d (paperD r' m' Ls)) (.d (.int 0)) = .ok (.d (.int (r' : Int))) := rfl
    have y1 : gIx (.d (paperD r' m' Ls)) (.d (.int 1)) = .ok (.d (optI m')) := rfl
    obtain ⟨D, hD2, hD⟩ := depthM us r hu
    have q4 := cert_ok us ts r (by omega) hu hD hD2
    obtain ⟨mne, mright⟩ := made_right us ts r hu wf.some hD
    have q5 := shortest_ok us ts [] ts r .none (.inl ⟨rfl, rfl⟩) hu (by omega) (by simp) (cf_nil _)
    have hwi : within [] r (planM us r [] ts) = planM us r [] ts := if_pos (Nat.zero_le _)
    rw [hwi] at q5
    have q5 : F_shortest_plan [.d (encT us ts), .d (.int (r : Int)), .d (.tuple []), .d .none] = _ := q5
    obtain ⟨t, hT⟩ := tabM_ok (r := r) hu (cf_nil us.length)
    obtain ⟨o, ho⟩ : ∃ o, o = planM us r [] ts := ⟨_, rfl⟩
    have hmany : manyO D o ≤ 256 := by
      cases o with
      | none => exact hD2
      | some p =>
        have few := planM_few hu (cf_nil us.length) ho.symm
        have l2 : 2 ^ us.length ≤ 2 ^ 8 := Nat.pow_le_pow_right (by omega) hu
        show p.length ≤ 256
        omega
    rw [← ho] at q4 q5 mne mright
    have ml : (madeLs (tabM us r []) D o).length ≤ 1000 := by unfold madeLs; rw [List.length_map, List.length_range]; omega
    have q6 := is_right_ok us ts r hu (lenO o) (madeLs (tabM us r []) D o) (fun l hl x hx => by
      obtain ⟨k, _, rfl⟩ := List.mem_map.mp hl
      have := (lev_mem t.nodup).mp hx
      unfold dst at this
      cases z : tget (tabM us r []) x with
      | none => rw [z] at this; cases this
      | some p => exact tab_cfM hu (cf_nil _) _ (tget_mem z)) ml mne
    rw [flaw_right, mright] at q6
    have z0 : gIx (.d (paperD r (lenO o) (madeLs (tabM us r []) D o))) (.d (.int 0)) = .ok (.d (.int (r : Int))) := rfl
    have z1 : gIx (.d (paperD r (lenO o) (madeLs (tabM us r []) D o))) (.d (.int 1)) = .ok (.d (optI (lenO o))) := rfl
    have dr : decide ((r : Int) = (r : Int)) = true := decide_eq_true rfl
    -- the made certificate: the last two statements
    have fin : ∀ (b : Bool), isNone (.d (optI (lenO o))) = b → isNone (.d (planO o)) = b := fun b hb => by
      rw [← hb]; cases o <;> rfl
    have hcnt : ∀ p, o = some p → gLen [.d (planO o)] = .ok (.d (.int (p.length : Int))) ∧ optI (lenO o) = .int (p.length : Int) := fun p hp => by
      subst hp
      refine ⟨?_, rfl⟩
      show gLen [.d (.list (p.map .int))] = _
      rw [e_lenL, List.length_map]
    have eb : ∀ b : Bool, PyData.eqv (.bool b) (.bool b) = true := fun b => by cases b <;> rfl
    have sb : ∀ b : Bool, SeqAt.shaped (.bool b) = true := fun b => by cases b <;> rfl
    have K : ∀ (b : Bool), rightB us r' ts m' Ls = b → ∀ (o : Option Nat), dst (tabM us r' []) ts = o → (b = true → ∀ j, o = some j → ∃ k, m' = some k ∧ k ≤ j) := fun b hb o ho h j hj => sound (hb.trans h) j (ho.trans hj)
    generalize paperD r (lenO o) (madeLs (tabM us r []) D o) = MA at *
    generalize paperD r' m' Ls = PP at *
    generalize encT us ts = EE at *
    generalize PyData.tuple (encU us) = UU at *
    generalize tupD ts = GG at *
    have main : ∀ (o : Option (List Int)) (b : Bool) (PL ML : PyData), planO o = PL → optI (lenO o) = ML → isNone (.d ML) = b → isNone (.d PL) = b → (∀ p, o = some p → gLen [.d PL] = .ok (.d (.int (p.length : Int))) ∧ ML = .int (p.length : Int)) → F_shortest_plan [.d EE, .d (.int (r : Int)), .d (.tuple []), .d .none] = .ok (.d PL) → gIx (.d MA) (.d (.int 1)) = .ok (.d ML) → ∃ env', L0_law [some (.sc ns), some (.d (.int w)), j2, j3, j4, j5, j6, j7] = .nx env' ∧ ∃ j1 j2 j3 j4 j5 j6 j7, env' = [some (.sc ns), j1, j2, j3, j4, j5, j6, j7] := by
      intro o b PL ML h1 h2 h3 h4 h5 h6 h7
      clear sound q5 z1 fin hcnt
      have last : ∀ e2 e4 e5, (sIf (bOr (cB (c2 gNe (c2 gIs (cV 7) (cC .none)) (c2 gIs (c2 gIx (cV 6) (cC (.int 1))) (cC .none)))) (bAnd (cB (c2 gIsNot (cV 7) (cC .none))) (cB (c2 gNe (c2 gIx (cV 6) (cC (.int 1))) (cA gLen (aC (cV 7) aN)))))) (sRet (cC (.bool false))) sNil) [some (.sc ns), some (.d (.int w)), e2, some (.d (.int (r : Int))), e4, e5, some (.d MA), some (.d PL)] = .nx [some (.sc ns), some (.d (.int w)), e2, some (.d (.int (r : Int))), e4, e5, some (.d MA), some (.d PL)] := by
        intro e2 e4 e5
        cases o with
        | none =>
          have hb : b = true := by rw [← h4, ← h1]; rfl
          subst hb
          clear h1 h2 K
          simp only [e_nil, e_seq, e_fz, e_bk, e_ct, e_ret, e_retN, e_drop, e_set, e_if, e_for, e_cC, e_c2, e_c1, e_cA, e_aN, e_aC, e_cB, e_asB, e_bNot, e_bAnd, e_bOr, e_vAnd, e_vOr, e_vNot, e_vIf, e_bYes, e_iL, e_iT, e_iLb, e_iR, e_gL1, e_gL2, e_gL3, e_gT, e_gLb1, e_gLb2, e_gLb3, e_gLb4, e_nb1, e_nb2, e_bor1, e_bor2, e_bor3, e_bor4, e_arg1, e_arg2, e_arg3, e_arg4, e_putd, e_puto, e_toD1, e_toD2, e_allD0, e_allD1, e_allD2, e_gTupl, e_gList, e_tgnm, e_tgtp, e_tg0, e_tg1, e_sq1, e_sq2, e_sq3, e_sq4, e_sq5, e_qv2, e_qv3, e_qv4, e_qv5, e_data1, e_data2, e_data3, e_okI, e_okB, e_i2, e_sub, e_mul, e_mod, e_div, e_pow, e_lt, e_le, e_gt, e_ge, e_neg, e_addI, e_addS, e_addT, e_addL1, e_addL2, e_addL3, e_addL4, e_addL5, e_addL6, e_addL7, e_addL8, e_addL9, e_eq, e_ne, e_in, e_notIn, e_inT, e_inT2, e_inL1, e_inL2, e_inL3, e_is, e_isNot, e_isN1, e_isN2, e_isN3, e_isN4, e_isN5, e_isN6, e_isN7, e_ixT, e_ixL, e_ixO, e_ixB, e_ixSc, e_lenT, e_lenL, e_lenO, e_lenB, e_lenSc, e_lenS, e_tupT, e_tupL, e_tupO, e_tupB, e_lisT, e_lisL, e_lisO, e_lisB, e_min2, e_max2, e_any, e_all, e_sum, e_sorted, e_rev, e_sl, e_oN, e_isi, e_lc, e_wipe0, e_wipe1, e_iA, e_iAb, e_gAq1, e_gAq2, e_gAq3, e_gAqb1, e_gAqb2, e_gAqb3, e_gAqb4, e_no, e_cCh, e_cChI, e_aug, e_decT, e_decF, e_cDispS, e_cDT, e_cDK, e_cDisp1, e_storeA, e_stR1, e_stR2, e_stR3, e_sd1, e_keyD1, e_keyD2, e_keyTD, e_intsD, e_intsD0, e_borT, e_borT2, e_borK, e_borK2, e_argT, e_argT2, e_argK, e_argK2, e_nbT, e_nbK, e_putT, e_putK, e_gAt1, e_gAt2, e_gAt3, e_gAt4, e_gGetDK, e_gGetDT, e_gIxD, e_gInD, e_gNotInD, e_cGet1, e_cGet2, e_dk1, e_dk2, e_dk3, e_dk4, e_dt1, e_dt2, e_del, atI_zero, e_at1, e_at2, e_at3, e_at4, e_at5, e_at6, e_at7, e_at8, e_at9, e_atm, e_V, e_retV, e_unp, e_app, e_store, e_fzE, oS, rsO_some, Rs.bind_ok, Rs.bind_no, Rs.out_ok, Out.then_nx, Out.then_rt, Out.then_ct, Out.then_bk, fin_rt, fin_nx, List.getElem?_cons_zero, List.getElem?_cons_succ, List.set_cons_succ, List.set_cons_zero, List.length_cons, List.length_nil, Nat.reduceAdd, Nat.reduceLT, Nat.reduceLeDiff, Nat.reduceEqDiff, if_true, if_false, Bool.false_eq_true, Bool.not_true, Bool.not_false, and_self, true_and, and_true, List.map_cons, List.map_nil, Option.map_some, sh_int, sh_bool, sh_none, sh_tup, sh_lst, eqv_int, reduceIte, Option.bind_some, Option.bind_none, kitB_ll, kitB_lt, kitB_tt, kitB_tl, kitB_ii, tyD_list, tyD_int, Bool.true_and, Bool.false_and, Bool.and_true, Bool.and_false, Bool.or_true, Bool.true_or, Bool.false_or, Bool.or_false, Bool.and_self, Bool.or_self, e_cAK, List.append_nil, List.nil_append, List.cons_append, e_andB, e_orB, e_andR, e_orR, tyD_tuple, eqv_bool, eqv_none, tyD_bool, tyD_str, tyD_none, kitB_bb, kitB_nb, kitB_bi, kitB_ib, kitB_nl, kitB_nt, beq_self_eq_true, h7, h3, h4, eb, sb]
        | some p =>
          have hb : b = false := by rw [← h4, ← h1]; rfl
          subst hb
          obtain ⟨l1, l2⟩ := h5 p rfl
          subst l2
          clear h1 h2 K
          simp only [e_nil, e_seq, e_fz, e_bk, e_ct, e_ret, e_retN, e_drop, e_set, e_if, e_for, e_cC, e_c2, e_c1, e_cA, e_aN, e_aC, e_cB, e_asB, e_bNot, e_bAnd, e_bOr, e_vAnd, e_vOr, e_vNot, e_vIf, e_bYes, e_iL, e_iT, e_iLb, e_iR, e_gL1, e_gL2, e_gL3, e_gT, e_gLb1, e_gLb2, e_gLb3, e_gLb4, e_nb1, e_nb2, e_bor1, e_bor2, e_bor3, e_bor4, e_arg1, e_arg2, e_arg3, e_arg4, e_putd, e_puto, e_toD1, e_toD2, e_allD0, e_allD1, e_allD2, e_gTupl, e_gList, e_tgnm, e_tgtp, e_tg0, e_tg1, e_sq1, e_sq2, e_sq3, e_sq4, e_sq5, e_qv2, e_qv3, e_qv4, e_qv5, e_data1, e_data2, e_data3, e_okI, e_okB, e_i2, e_sub, e_mul, e_mod, e_div, e_pow, e_lt, e_le, e_gt, e_ge, e_neg, e_addI, e_addS, e_addT, e_addL1, e_addL2, e_addL3, e_addL4, e_addL5, e_addL6, e_addL7, e_addL8, e_addL9, e_eq, e_ne, e_in, e_notIn, e_inT, e_inT2, e_inL1, e_inL2, e_inL3, e_is, e_isNot, e_isN1, e_isN2, e_isN3, e_isN4, e_isN5, e_isN6, e_isN7, e_ixT, e_ixL, e_ixO, e_ixB, e_ixSc, e_lenT, e_lenL, e_lenO, e_lenB, e_lenSc, e_lenS, e_tupT, e_tupL, e_tupO, e_tupB, e_lisT, e_lisL, e_lisO, e_lisB, e_min2, e_max2, e_any, e_all, e_sum, e_sorted, e_rev, e_sl, e_oN, e_isi, e_lc, e_wipe0, e_wipe1, e_iA, e_iAb, e_gAq1, e_gAq2, e_gAq3, e_gAqb1, e_gAqb2, e_gAqb3, e_gAqb4, e_no, e_cCh, e_cChI, e_aug, e_decT, e_decF, e_cDispS, e_cDT, e_cDK, e_cDisp1, e_storeA, e_stR1, e_stR2, e_stR3, e_sd1, e_keyD1, e_keyD2, e_keyTD, e_intsD, e_intsD0, e_borT, e_borT2, e_borK, e_borK2, e_argT, e_argT2, e_argK, e_argK2, e_nbT, e_nbK, e_putT, e_putK, e_gAt1, e_gAt2, e_gAt3, e_gAt4, e_gGetDK, e_gGetDT, e_gIxD, e_gInD, e_gNotInD, e_cGet1, e_cGet2, e_dk1, e_dk2, e_dk3, e_dk4, e_dt1, e_dt2, e_del, atI_zero, e_at1, e_at2, e_at3, e_at4, e_at5, e_at6, e_at7, e_at8, e_at9, e_atm, e_V, e_retV, e_unp, e_app, e_store, e_fzE, oS, rsO_some, Rs.bind_ok, Rs.bind_no, Rs.out_ok, Out.then_nx, Out.then_rt, Out.then_ct, Out.then_bk, fin_rt, fin_nx, List.getElem?_cons_zero, List.getElem?_cons_succ, List.set_cons_succ, List.set_cons_zero, List.length_cons, List.length_nil, Nat.reduceAdd, Nat.reduceLT, Nat.reduceLeDiff, Nat.reduceEqDiff, if_true, if_false, Bool.false_eq_true, Bool.not_true, Bool.not_false, and_self, true_and, and_true, List.map_cons, List.map_nil, Option.map_some, sh_int, sh_bool, sh_none, sh_tup, sh_lst, eqv_int, reduceIte, Option.bind_some, Option.bind_none, kitB_ll, kitB_lt, kitB_tt, kitB_tl, kitB_ii, tyD_list, tyD_int, Bool.true_and, Bool.false_and, Bool.and_true, Bool.and_false, Bool.or_true, Bool.true_or, Bool.false_or, Bool.or_false, Bool.and_self, Bool.or_self, e_cAK, List.append_nil, List.nil_append, List.cons_append, e_andB, e_orB, e_andR, e_orR, tyD_tuple, eqv_bool, eqv_none, tyD_bool, tyD_str, tyD_none, kitB_bb, kitB_nb, kitB_bi, kitB_ib, kitB_nl, kitB_nt, beq_self_eq_true, h7, h4, l1, eb, sb, decide_true]
      generalize hlast : (sIf (bOr (cB (c2 gNe (c2 gIs (cV 7) (cC .none)) (c2 gIs (c2 gIx (cV 6) (cC (.int 1))) (cC .none)))) (bAnd (cB (c2 gIsNot (cV 7) (cC .none))) (cB (c2 gNe (c2 gIx (cV 6) (cC (.int 1))) (cA gLen (aC (cV 7) aN)))))) (sRet (cC (.bool false))) sNil) = fl at last
      unfold L0_law
      rw [hlast]
      clear h1 h2 h5
      cases hB : rightB us r' ts m' Ls with
      | false =>
        rw [hB] at p6
        clear K
        generalize encD (tabM us r' []) = TT at *
        generalize hX : (sSeq _ _ : VEnv → Out) _ = X
        simp only [e_nil, e_seq, e_fz, e_bk, e_ct, e_ret, e_retN, e_drop, e_set, e_if, e_for, e_cC, e_c2, e_c1, e_cA, e_aN, e_aC, e_cB, e_asB, e_bNot, e_bAnd, e_bOr, e_vAnd, e_vOr, e_vNot, e_vIf, e_bYes, e_iL, e_iT, e_iLb, e_iR, e_gL1, e_gL2, e_gL3, e_gT, e_gLb1, e_gLb2, e_gLb3, e_gLb4, e_nb1, e_nb2, e_bor1, e_bor2, e_bor3, e_bor4, e_arg1, e_arg2, e_arg3, e_arg4, e_putd, e_puto, e_toD1, e_toD2, e_allD0, e_allD1, e_allD2, e_gTupl, e_gList, e_tgnm, e_tgtp, e_tg0, e_tg1, e_sq1, e_sq2, e_sq3, e_sq4, e_sq5, e_qv2, e_qv3, e_qv4, e_qv5, e_data1, e_data2, e_data3, e_okI, e_okB, e_i2, e_sub, e_mul, e_mod, e_div, e_pow, e_lt, e_le, e_gt, e_ge, e_neg, e_addI, e_addS, e_addT, e_addL1, e_addL2, e_addL3, e_addL4, e_addL5, e_addL6, e_addL7, e_addL8, e_addL9, e_eq, e_ne, e_in, e_notIn, e_inT, e_inT2, e_inL1, e_inL2, e_inL3, e_is, e_isNot, e_isN1, e_isN2, e_isN3, e_isN4, e_isN5, e_isN6, e_isN7, e_ixT, e_ixL, e_ixO, e_ixB, e_ixSc, e_lenT, e_lenL, e_lenO, e_lenB, e_lenSc, e_lenS, e_tupT, e_tupL, e_tupO, e_tupB, e_lisT, e_lisL, e_lisO, e_lisB, e_min2, e_max2, e_any, e_all, e_sum, e_sorted, e_rev, e_sl, e_oN, e_isi, e_lc, e_wipe0, e_wipe1, e_iA, e_iAb, e_gAq1, e_gAq2, e_gAq3, e_gAqb1, e_gAqb2, e_gAqb3, e_gAqb4, e_no, e_cCh, e_cChI, e_aug, e_decT, e_decF, e_cDispS, e_cDT, e_cDK, e_cDisp1, e_storeA, e_stR1, e_stR2, e_stR3, e_sd1, e_keyD1, e_keyD2, e_keyTD, e_intsD, e_intsD0, e_borT, e_borT2, e_borK, e_borK2, e_argT, e_argT2, e_argK, e_argK2, e_nbT, e_nbK, e_putT, e_putK, e_gAt1, e_gAt2, e_gAt3, e_gAt4, e_gGetDK, e_gGetDT, e_gIxD, e_gInD, e_gNotInD, e_cGet1, e_cGet2, e_dk1, e_dk2, e_dk3, e_dk4, e_dt1, e_dt2, e_del, atI_zero, e_at1, e_at2, e_at3, e_at4, e_at5, e_at6, e_at7, e_at8, e_at9, e_atm, e_V, e_retV, e_unp, e_app, e_store, e_fzE, oS, rsO_some, Rs.bind_ok, Rs.bind_no, Rs.out_ok, Out.then_nx, Out.then_rt, Out.then_ct, Out.then_bk, fin_rt, fin_nx, List.getElem?_cons_zero, List.getElem?_cons_succ, List.set_cons_succ, List.set_cons_zero, List.length_cons, List.length_nil, Nat.reduceAdd, Nat.reduceLT, Nat.reduceLeDiff, Nat.reduceEqDiff, if_true, if_false, Bool.false_eq_true, Bool.not_true, Bool.not_false, and_self, true_and, and_true, List.map_cons, List.map_nil, Option.map_some, sh_int, sh_bool, sh_none, sh_tup, sh_lst, eqv_int, reduceIte, Option.bind_some, Option.bind_none, kitB_ll, kitB_lt, kitB_tt, kitB_tl, kitB_ii, tyD_list, tyD_int, Bool.true_and, Bool.false_and, Bool.and_true, Bool.and_false, Bool.or_true, Bool.true_or, Bool.false_or, Bool.or_false, Bool.and_self, Bool.or_self, e_cAK, List.append_nil, List.nil_append, List.cons_append, e_andB, e_orB, e_andR, e_orR, tyD_tuple, eqv_bool, eqv_none, tyD_bool, tyD_str, tyD_none, kitB_bb, kitB_nb, kitB_bi, kitB_ib, kitB_nl, kitB_nt, beq_self_eq_true, if_pos mulOk, k0, k7, k8, p1, p2, kr, p3, x0, y0, p4, p6, q4, h6, q6, z0, dr, last] at hX
        subst hX
        exact ⟨_, rfl, _, _, _, _, _, _, _, rfl⟩
      | true =>
        rw [hB] at p6
        cases hd : dst (tabM us r' []) ts with
        | none =>
          rw [hd] at hg
          have hg : dGet (encD (tabM us r' [])) ts = none := hg
          clear K
          generalize encD (tabM us r' []) = TT at *
          generalize hX : (sSeq _ _ : VEnv → Out) _ = X
          simp only [e_nil, e_seq, e_fz, e_bk, e_ct, e_ret, e_retN, e_drop, e_set, e_if, e_for, e_cC, e_c2, e_c1, e_cA, e_aN, e_aC, e_cB, e_asB, e_bNot, e_bAnd, e_bOr, e_vAnd, e_vOr, e_vNot, e_vIf, e_bYes, e_iL, e_iT, e_iLb, e_iR, e_gL1, e_gL2, e_gL3, e_gT, e_gLb1, e_gLb2, e_gLb3, e_gLb4, e_nb1, e_nb2, e_bor1, e_bor2, e_bor3, e_bor4, e_arg1, e_arg2, e_arg3, e_arg4, e_putd, e_puto, e_toD1, e_toD2, e_allD0, e_allD1, e_allD2, e_gTupl, e_gList, e_tgnm, e_tgtp, e_tg0, e_tg1, e_sq1, e_sq2, e_sq3, e_sq4, e_sq5, e_qv2, e_qv3, e_qv4, e_qv5, e_data1, e_data2, e_data3, e_okI, e_okB, e_i2, e_sub, e_mul, e_mod, e_div, e_pow, e_lt, e_le, e_gt, e_ge, e_neg, e_addI, e_addS, e_addT, e_addL1, e_addL2, e_addL3, e_addL4, e_addL5, e_addL6, e_addL7, e_addL8, e_addL9, e_eq, e_ne, e_in, e_notIn, e_inT, e_inT2, e_inL1, e_inL2, e_inL3, e_is, e_isNot, e_isN1, e_isN2, e_isN3, e_isN4, e_isN5, e_isN6, e_isN7, e_ixT, e_ixL, e_ixO, e_ixB, e_ixSc, e_lenT, e_lenL, e_lenO, e_lenB, e_lenSc, e_lenS, e_tupT, e_tupL, e_tupO, e_tupB, e_lisT, e_lisL, e_lisO, e_lisB, e_min2, e_max2, e_any, e_all, e_sum, e_sorted, e_rev, e_sl, e_oN, e_isi, e_lc, e_wipe0, e_wipe1, e_iA, e_iAb, e_gAq1, e_gAq2, e_gAq3, e_gAqb1, e_gAqb2, e_gAqb3, e_gAqb4, e_no, e_cCh, e_cChI, e_aug, e_decT, e_decF, e_cDispS, e_cDT, e_cDK, e_cDisp1, e_storeA, e_stR1, e_stR2, e_stR3, e_sd1, e_keyD1, e_keyD2, e_keyTD, e_intsD, e_intsD0, e_borT, e_borT2, e_borK, e_borK2, e_argT, e_argT2, e_argK, e_argK2, e_nbT, e_nbK, e_putT, e_putK, e_gAt1, e_gAt2, e_gAt3, e_gAt4, e_gGetDK, e_gGetDT, e_gIxD, e_gInD, e_gNotInD, e_cGet1, e_cGet2, e_dk1, e_dk2, e_dk3, e_dk4, e_dt1, e_dt2, e_del, atI_zero, e_at1, e_at2, e_at3, e_at4, e_at5, e_at6, e_at7, e_at8, e_at9, e_atm, e_V, e_retV, e_unp, e_app, e_store, e_fzE, oS, rsO_some, Rs.bind_ok, Rs.bind_no, Rs.out_ok, Out.then_nx, Out.then_rt, Out.then_ct, Out.then_bk, fin_rt, fin_nx, List.getElem?_cons_zero, List.getElem?_cons_succ, List.set_cons_succ, List.set_cons_zero, List.length_cons, List.length_nil, Nat.reduceAdd, Nat.reduceLT, Nat.reduceLeDiff, Nat.reduceEqDiff, if_true, if_false, Bool.false_eq_true, Bool.not_true, Bool.not_false, and_self, true_and, and_true, List.map_cons, List.map_nil, Option.map_some, sh_int, sh_bool, sh_none, sh_tup, sh_lst, eqv_int, reduceIte, Option.bind_some, Option.bind_none, kitB_ll, kitB_lt, kitB_tt, kitB_tl, kitB_ii, tyD_list, tyD_int, Bool.true_and, Bool.false_and, Bool.and_true, Bool.and_false, Bool.or_true, Bool.true_or, Bool.false_or, Bool.or_false, Bool.and_self, Bool.or_self, e_cAK, List.append_nil, List.nil_append, List.cons_append, e_andB, e_orB, e_andR, e_orR, tyD_tuple, eqv_bool, eqv_none, tyD_bool, tyD_str, tyD_none, kitB_bb, kitB_nb, kitB_bi, kitB_ib, kitB_nl, kitB_nt, beq_self_eq_true, if_pos mulOk, k0, k7, k8, p1, p2, kr, p3, x0, x1, y0, p4, p6, hkt, hg, Option.isSome_none, q4, h6, q6, z0, dr, last] at hX
          subst hX
          exact ⟨_, rfl, _, _, _, _, _, _, _, rfl⟩
        | some j =>
          obtain ⟨k, rfl, hkj⟩ := K true hB _ hd rfl j rfl
          rw [hd] at hg
          have hg : dGet (encD (tabM us r' [])) ts = some (.int (j : Int)) := hg
          have dd : decide ((j : Int) < k) = false := decide_eq_false (by omega)
          have y1 : gIx (.d PP) (.d (.int 1)) = .ok (.d (.int k)) := y1
          clear K
          generalize encD (tabM us r' []) = TT at *
          generalize hX : (sSeq _ _ : VEnv → Out) _ = X
          simp only [e_nil, e_seq, e_fz, e_bk, e_ct, e_ret, e_retN, e_drop, e_set, e_if, e_for, e_cC, e_c2, e_c1, e_cA, e_aN, e_aC, e_cB, e_asB, e_bNot, e_bAnd, e_bOr, e_vAnd, e_vOr, e_vNot, e_vIf, e_bYes, e_iL, e_iT, e_iLb, e_iR, e_gL1, e_gL2, e_gL3, e_gT, e_gLb1, e_gLb2, e_gLb3, e_gLb4, e_nb1, e_nb2, e_bor1, e_bor2, e_bor3, e_bor4, e_arg1, e_arg2, e_arg3, e_arg4, e_putd, e_puto, e_toD1, e_toD2, e_allD0, e_allD1, e_allD2, e_gTupl, e_gList, e_tgnm, e_tgtp, e_tg0, e_tg1, e_sq1, e_sq2, e_sq3, e_sq4, e_sq5, e_qv2, e_qv3, e_qv4, e_qv5, e_data1, e_data2, e_data3, e_okI, e_okB, e_i2, e_sub, e_mul, e_mod, e_div, e_pow, e_lt, e_le, e_gt, e_ge, e_neg, e_addI, e_addS, e_addT, e_addL1, e_addL2, e_addL3, e_addL4, e_addL5, e_addL6, e_addL7, e_addL8, e_addL9, e_eq, e_ne, e_in, e_notIn, e_inT, e_inT2, e_inL1, e_inL2, e_inL3, e_is, e_isNot, e_isN1, e_isN2, e_isN3, e_isN4, e_isN5, e_isN6, e_isN7, e_ixT, e_ixL, e_ixO, e_ixB, e_ixSc, e_lenT, e_lenL, e_lenO, e_lenB, e_lenSc, e_lenS, e_tupT, e_tupL, e_tupO, e_tupB, e_lisT, e_lisL, e_lisO, e_lisB, e_min2, e_max2, e_any, e_all, e_sum, e_sorted, e_rev, e_sl, e_oN, e_isi, e_lc, e_wipe0, e_wipe1, e_iA, e_iAb, e_gAq1, e_gAq2, e_gAq3, e_gAqb1, e_gAqb2, e_gAqb3, e_gAqb4, e_no, e_cCh, e_cChI, e_aug, e_decT, e_decF, e_cDispS, e_cDT, e_cDK, e_cDisp1, e_storeA, e_stR1, e_stR2, e_stR3, e_sd1, e_keyD1, e_keyD2, e_keyTD, e_intsD, e_intsD0, e_borT, e_borT2, e_borK, e_borK2, e_argT, e_argT2, e_argK, e_argK2, e_nbT, e_nbK, e_putT, e_putK, e_gAt1, e_gAt2, e_gAt3, e_gAt4, e_gGetDK, e_gGetDT, e_gIxD, e_gInD, e_gNotInD, e_cGet1, e_cGet2, e_dk1, e_dk2, e_dk3, e_dk4, e_dt1, e_dt2, e_del, atI_zero, e_at1, e_at2, e_at3, e_at4, e_at5, e_at6, e_at7, e_at8, e_at9, e_atm, e_V, e_retV, e_unp, e_app, e_store, e_fzE, oS, rsO_some, Rs.bind_ok, Rs.bind_no, Rs.out_ok, Out.then_nx, Out.then_rt, Out.then_ct, Out.then_bk, fin_rt, fin_nx, List.getElem?_cons_zero, List.getElem?_cons_succ, List.set_cons_succ, List.set_cons_zero, List.length_cons, List.length_nil, Nat.reduceAdd, Nat.reduceLT, Nat.reduceLeDiff, Nat.reduceEqDiff, if_true, if_false, Bool.false_eq_true, Bool.not_true, Bool.not_false, and_self, true_and, and_true, List.map_cons, List.map_nil, Option.map_some, sh_int, sh_bool, sh_none, sh_tup, sh_lst, eqv_int, reduceIte, Option.bind_some, Option.bind_none, kitB_ll, kitB_lt, kitB_tt, kitB_tl, kitB_ii, tyD_list, tyD_int, Bool.true_and, Bool.false_and, Bool.and_true, Bool.and_false, Bool.or_true, Bool.true_or, Bool.false_or, Bool.or_false, Bool.and_self, Bool.or_self, e_cAK, List.append_nil, List.nil_append, List.cons_append, e_andB, e_orB, e_andR, e_orR, tyD_tuple, eqv_bool, eqv_none, tyD_bool, tyD_str, tyD_none, kitB_bb, kitB_nb, kitB_bi, kitB_ib, kitB_nl, kitB_nt, beq_self_eq_true, if_pos mulOk, k0, k7, k8, p1, p2, kr, p3, x0, x1, y0, y1, p4, p6, hkt, hg, Option.isSome_some, dd, q4, h6, q6, z0, dr, last] at hX
          subst hX
          exact ⟨_, rfl, _, _, _, _, _, _, _, rfl⟩
    obtain ⟨env', a, b⟩ := main o (isNone (.d (optI (lenO o)))) _ _ rfl rfl rfl (fin _ rfl) hcnt q5 z1
    exact ⟨env', .inl a, b⟩) ⟨none, none, none, none, none, none, none, rfl⟩
  show (sSeq _ _ [some (.sc ns), none, none, none, none, none, none, none]).fin = _
  rw [e_seq, e_for, hr, Rs.out_ok, e1]
  simp only [e_nil, e_seq, e_fz, e_bk, e_ct, e_ret, e_retN, e_drop, e_set, e_if, e_for, e_cC, e_c2, e_c1, e_cA, e_aN, e_aC, e_cB, e_asB, e_bNot, e_bAnd, e_bOr, e_vAnd, e_vOr, e_vNot, e_vIf, e_bYes, e_iL, e_iT, e_iLb, e_iR, e_gL1, e_gL2, e_gL3, e_gT, e_gLb1, e_gLb2, e_gLb3, e_gLb4, e_nb1, e_nb2, e_bor1, e_bor2, e_bor3, e_bor4, e_arg1, e_arg2, e_arg3, e_arg4, e_putd, e_puto, e_toD1, e_toD2, e_allD0, e_allD1, e_allD2, e_gTupl, e_gList, e_tgnm, e_tgtp, e_tg0, e_tg1, e_sq1, e_sq2, e_sq3, e_sq4, e_sq5, e_qv2, e_qv3, e_qv4, e_qv5, e_data1, e_data2, e_data3, e_okI, e_okB, e_i2, e_sub, e_mul, e_mod, e_div, e_pow, e_lt, e_le, e_gt, e_ge, e_neg, e_addI, e_addS, e_addT, e_addL1, e_addL2, e_addL3, e_addL4, e_addL5, e_addL6, e_addL7, e_addL8, e_addL9, e_eq, e_ne, e_in, e_notIn, e_inT, e_inT2, e_inL1, e_inL2, e_inL3, e_is, e_isNot, e_isN1, e_isN2, e_isN3, e_isN4, e_isN5, e_isN6, e_isN7, e_ixT, e_ixL, e_ixO, e_ixB, e_ixSc, e_lenT, e_lenL, e_lenO, e_lenB, e_lenSc, e_lenS, e_tupT, e_tupL, e_tupO, e_tupB, e_lisT, e_lisL, e_lisO, e_lisB, e_min2, e_max2, e_any, e_all, e_sum, e_sorted, e_rev, e_sl, e_oN, e_isi, e_lc, e_wipe0, e_wipe1, e_iA, e_iAb, e_gAq1, e_gAq2, e_gAq3, e_gAqb1, e_gAqb2, e_gAqb3, e_gAqb4, e_no, e_cCh, e_cChI, e_aug, e_decT, e_decF, e_cDispS, e_cDT, e_cDK, e_cDisp1, e_storeA, e_stR1, e_stR2, e_stR3, e_sd1, e_keyD1, e_keyD2, e_keyTD, e_intsD, e_intsD0, e_borT, e_borT2, e_borK, e_borK2, e_argT, e_argT2, e_argK, e_argK2, e_nbT, e_nbK, e_putT, e_putK, e_gAt1, e_gAt2, e_gAt3, e_gAt4, e_gGetDK, e_gGetDT, e_gIxD, e_gInD, e_gNotInD, e_cGet1, e_cGet2, e_dk1, e_dk2, e_dk3, e_dk4, e_dt1, e_dt2, e_del, atI_zero, e_at1, e_at2, e_at3, e_at4, e_at5, e_at6, e_at7, e_at8, e_at9, e_atm, e_V, e_retV, e_unp, e_app, e_store, e_fzE, oS, rsO_some, Rs.bind_ok, Rs.bind_no, Rs.out_ok, Out.then_nx, Out.then_rt, Out.then_ct, Out.then_bk, fin_rt, fin_nx, List.getElem?_cons_zero, List.getElem?_cons_succ, List.set_cons_succ, List.set_cons_zero, List.length_cons, List.length_nil, Nat.reduceAdd, Nat.reduceLT, Nat.reduceLeDiff, Nat.reduceEqDiff, if_true, if_false, Bool.false_eq_true, Bool.not_true, Bool.not_false, and_self, true_and, and_true, List.map_cons, List.map_nil, Option.map_some, sh_int, sh_bool, sh_none, sh_tup, sh_lst, eqv_int, reduceIte, Option.bind_some, Option.bind_none, kitB_ll, kitB_lt, kitB_tt, kitB_tl, kitB_ii, tyD_list, tyD_int, Bool.true_and, Bool.false_and, Bool.and_true, Bool.and_false, Bool.or_true, Bool.true_or, Bool.false_or, Bool.or_false, Bool.and_self, Bool.or_self, e_cAK, List.append_nil, List.nil_append, List.cons_append, e_andB, e_orB, e_andR, e_orR, tyD_tuple, eqv_bool, eqv_none, tyD_bool, tyD_str, tyD_none, kitB_bb, kitB_nb, kitB_bi, kitB_ib, kitB_nl, kitB_nt, beq_self_eq_true]
def topS (i : Nat) : Stmt := PySem.Challenge.pw_tidyback_k19_right_certificates_are_true.main.body.getD i (.Pass ⟨0, 0, 0, 0⟩)
structure Txt (K : PySem.W.Frag) (mg : Str → Option Value) (a__law_cell a__law_draw a__law_task a__law_can a__law_moved a__law_ways a__law_paper a_is_possible a_moved a_transitions a_shortest_plan a_levels_of a_certificate a_stands_in a_flaw a_is_right a_law : Addr) : Prop where
  g__law_cell : mg "_law_cell" = some (.ref a__law_cell)
  k__law_cell : PySem.W.keepIn K (.ref a__law_cell) = true
  g__law_draw : mg "_law_draw" = some (.ref a__law_draw)
  k__law_draw : PySem.W.keepIn K (.ref a__law_draw) = true
  g__law_task : mg "_law_task" = some (.ref a__law_task)
  k__law_task : PySem.W.keepIn K (.ref a__law_task) = true
  g__law_can : mg "_law_can" = some (.ref a__law_can)
  k__law_can : PySem.W.keepIn K (.ref a__law_can) = true
  g__law_moved : mg "_law_moved" = some (.ref a__law_moved)
  k__law_moved : PySem.W.keepIn K (.ref a__law_moved) = true
  g__law_ways : mg "_law_ways" = some (.ref a__law_ways)
  k__law_ways : PySem.W.keepIn K (.ref a__law_ways) = true
  g__law_paper : mg "_law_paper" = some (.ref a__law_paper)
  k__law_paper : PySem.W.keepIn K (.ref a__law_paper) = true
  g_is_possible : mg "is_possible" = some (.ref a_is_possible)
  k_is_possible : PySem.W.keepIn K (.ref a_is_possible) = true
  g_moved : mg "moved" = some (.ref a_moved)
  k_moved : PySem.W.keepIn K (.ref a_moved) = true
  g_transitions : mg "transitions" = some (.ref a_transitions)
  k_transitions : PySem.W.keepIn K (.ref a_transitions) = true
  g_shortest_plan : mg "shortest_plan" = some (.ref a_shortest_plan)
  k_shortest_plan : PySem.W.keepIn K (.ref a_shortest_plan) = true
  g_levels_of : mg "levels_of" = some (.ref a_levels_of)
  k_levels_of : PySem.W.keepIn K (.ref a_levels_of) = true
  g_certificate : mg "certificate" = some (.ref a_certificate)
  k_certificate : PySem.W.keepIn K (.ref a_certificate) = true
  g_stands_in : mg "stands_in" = some (.ref a_stands_in)
  k_stands_in : PySem.W.keepIn K (.ref a_stands_in) = true
  g_flaw : mg "flaw" = some (.ref a_flaw)
  k_flaw : PySem.W.keepIn K (.ref a_flaw) = true
  g_is_right : mg "is_right" = some (.ref a_is_right)
  k_is_right : PySem.W.keepIn K (.ref a_is_right) = true
  g_law : mg "law" = some (.ref a_law)
  k_law : PySem.W.keepIn K (.ref a_law) = true
  z_all : mg "all" = none
  z_len : mg "len" = none
  z_list : mg "list" = none
  z_max : mg "max" = none
  z_min : mg "min" = none
  z_range : mg "range" = none
  z_sorted : mg "sorted" = none
  z_tuple : mg "tuple" = none
section
variable {P : Program} {w : World} {K : PySem.W.Frag} {mg : Str → Option Value} {base : Heap} {ca : Nat → Addr} {a__law_cell a__law_draw a__law_task a__law_can a__law_moved a__law_ways a__law_paper a_is_possible a_moved a_transitions a_shortest_plan a_levels_of a_certificate a_stands_in a_flaw a_is_right a_law : Addr}
abbrev s__law_cell : Stmt := topS 13
abbrev n__law_cell : List Str := ["_law_script", "_law_k"]
theorem sc__law_cell : FnScope n__law_cell ["_law_script", "_law_k"] (defScope s__law_cell) := ⟨rfl, rfl, rfl, by decide +kernel, rfl, by decide +kernel, by decide +kernel⟩
theorem ok__law_cell (T : Txt K mg a__law_cell a__law_draw a__law_task a__law_can a__law_moved a__law_ways a__law_paper a_is_possible a_moved a_transitions a_shortest_plan a_levels_of a_certificate a_stands_in a_flaw a_is_right a_law) {fd : FuncData} (F : Fun K "_law_cell" "_law_cell" s__law_cell a__law_cell fd) : FnOk P w K mg base (L2.CX P w) 1 a__law_cell fd ["_law_script", "_law_k"] (spV K ca 2 F__law_cell) :=
  fn_ok (k := 0) (N := n__law_cell) (body := B__law_cell) F sc__law_cell (fun cdv A outer s H E hr tk hp =>
    (vss_cons (vs_if (vt_cmp op_lt s_lt (vv 1) (ve_callB call_lenA c_len (by rfl) T.z_len (by decide +kernel) (va_cons (vv 0) va_nil)) (nomark _)) (vss_one (vs_ret (ve_ix ix_seq s_ix (vv 0) (vv 1) (fun _ _ => rfl)))) vss_nil)
    (vss_one (vs_ret ve_int))))
abbrev s__law_draw : Stmt := topS 14
abbrev n__law_draw : List Str := ["_law_script", "_law_k", "_law_sizes", "_law_cell_here", "_law_drawn", "_law_size", "_law_mixed", "_law_j"]
theorem sc__law_draw : FnScope n__law_draw ["_law_script", "_law_k", "_law_sizes"] (defScope s__law_draw) := ⟨rfl, rfl, rfl, by decide +kernel, rfl, by decide +kernel, by decide +kernel⟩
theorem ok__law_draw (T : Txt K mg a__law_cell a__law_draw a__law_task a__law_can a__law_moved a__law_ways a__law_paper a_is_possible a_moved a_transitions a_shortest_plan a_levels_of a_certificate a_stands_in a_flaw a_is_right a_law) {fd__law_cell : FuncData} (G__law_cell : FnOk P w K mg base (L2.CX P w) 1 a__law_cell fd__law_cell ["_law_script", "_law_k"] (spV K ca 2 F__law_cell)) (b__law_cell : Binds K fd__law_cell ["_law_script", "_law_k"] []) {fd : FuncData} (F : Fun K "_law_draw" "_law_draw" s__law_draw a__law_draw fd) : FnOk P w K mg base (L2.CX P w) 2 a__law_draw fd ["_law_script", "_law_k", "_law_sizes"] (spV K ca 3 F__law_draw) :=
  fn_ok (k := 1) (N := n__law_draw) (body := B__law_draw) F sc__law_draw (fun cdv A outer s H E hr tk hp =>
    (vss_cons (vs_set (i := 3) sc__law_draw.nd rfl (Or.inl rfl) (ve_call G__law_cell (hr.mono (by decide)) (by rfl) T.g__law_cell T.k__law_cell b__law_cell tk (va_cons (vv 0) (va_cons (vv 1) va_nil))))
    (vss_cons (vs_if (vt_cmp op_lt s_lt (vv 3) ve_int (nomark _)) (vss_one (vs_set (i := 3) sc__law_draw.nd rfl (Or.inl rfl) (ve_un un_neg s_neg (vv 3)))) vss_nil)
    (vss_cons (vs_set (i := 4) sc__law_draw.nd rfl (Or.inl rfl) (ve_lst va_nil))
    (vss_cons (vs_if (vt_cmp op_ge s_ge (vv 3) (ve_op op_pow s_pow ve_int ve_int) (nomark _)) (vss_cons (vs_set (i := 3) sc__law_draw.nd rfl (Or.inl rfl) (ve_op op_sub s_sub (vv 3) (ve_op op_pow s_pow ve_int ve_int)))
    (vss_cons (vs_for hp rfl (vi_list (vv 2)) (vg_name sc__law_draw.nd rfl (Or.inl rfl)) (vss_cons (vs_app 4 (ve_op op_mod s_mod (vv 3) (vv 5)))
    (vss_one (vs_set (i := 3) sc__law_draw.nd rfl (Or.inl rfl) (ve_op op_fdiv s_div (vv 3) (vv 5))))))
    (vss_one (vs_retv 4)))) vss_nil)
    (vss_cons (vs_set (i := 6) sc__law_draw.nd rfl (Or.inl rfl) (ve_op op_mod s_mod (ve_op op_addA s_add (ve_op op_addA s_add (vv 3) ve_int) (ve_op op_mul s_mul ve_int (vv 1))) ve_int))
    (vss_cons (vs_for hp rfl (vi_range1 (by rfl) T.z_range (va_cons (ve_callB call_lenA c_len (by rfl) T.z_len (by decide +kernel) (va_cons (vv 2) va_nil)) va_nil)) (vg_name sc__law_draw.nd rfl (Or.inl rfl)) (vss_cons (vs_set (i := 6) sc__law_draw.nd rfl (Or.inl rfl) (ve_op op_mod s_mod (ve_op op_addA s_add (ve_op op_addA s_add (ve_op op_mul s_mul (vv 6) ve_int) ve_int) (vv 7)) ve_int))
    (vss_cons (vs_set (i := 6) sc__law_draw.nd rfl (Or.inl rfl) (ve_op op_mod s_mod (ve_op op_addA s_add (ve_op op_mul s_mul (vv 6) ve_int) ve_int) ve_int))
    (vss_one (vs_app 4 (ve_op op_mod s_mod (ve_op op_fdiv s_div (vv 6) ve_int) (ve_ix ix_seq s_ix (vv 2) (vv 7) (fun _ _ => rfl))))))))
    (vss_one (vs_retv 4)))))))))
abbrev s__law_task : Stmt := topS 15
abbrev n__law_task : List Str := ["_law_script", "_law_at", "_law_most", "_law_head", "_law_uses", "_law_k", "_law_digits", "_law_row", "_law_j", "_law_targets"]
theorem sc__law_task : FnScope n__law_task ["_law_script", "_law_at", "_law_most"] (defScope s__law_task) := ⟨rfl, rfl, rfl, by decide +kernel, rfl, by decide +kernel, by decide +kernel⟩
theorem ok__law_task (T : Txt K mg a__law_cell a__law_draw a__law_task a__law_can a__law_moved a__law_ways a__law_paper a_is_possible a_moved a_transitions a_shortest_plan a_levels_of a_certificate a_stands_in a_flaw a_is_right a_law) {fd__law_draw : FuncData} (G__law_draw : FnOk P w K mg base (L2.CX P w) 2 a__law_draw fd__law_draw ["_law_script", "_law_k", "_law_sizes"] (spV K ca 3 F__law_draw)) (b__law_draw : Binds K fd__law_draw ["_law_script", "_law_k", "_law_sizes"] []) {fd : FuncData} (F : Fun K "_law_task" "_law_task" s__law_task a__law_task fd) : FnOk P w K mg base (L2.CX P w) 3 a__law_task fd ["_law_script", "_law_at", "_law_most"] (spV K ca 3 F__law_task) :=
  fn_ok (k := 2) (N := n__law_task) (body := B__law_task) F sc__law_task (fun cdv A outer s H E hr tk hp =>
    (vss_cons (vs_set (i := 3) sc__law_task.nd rfl (Or.inl rfl) (ve_call G__law_draw (hr.mono (by decide)) (by rfl) T.g__law_draw T.k__law_draw b__law_draw tk (va_cons (vv 0) (va_cons (vv 1) (va_cons (ve_lst (va_cons (vv 2) (va_cons ve_int (va_cons ve_int va_nil)))) va_nil)))))
    (vss_cons (vs_set (i := 4) sc__law_task.nd rfl (Or.inl rfl) (ve_lst va_nil))
    (vss_cons (vs_for hp rfl (vi_range1 (by rfl) T.z_range (va_cons (ve_op op_addA s_add ve_int (ve_ix ix_seq s_ix (vv 3) ve_int (fun _ _ => rfl))) va_nil)) (vg_name sc__law_task.nd rfl (Or.inl rfl)) (vss_cons (vs_set (i := 6) sc__law_task.nd rfl (Or.inl rfl) (ve_call G__law_draw (hr.mono (by decide)) (by rfl) T.g__law_draw T.k__law_draw b__law_draw tk (va_cons (vv 0) (va_cons (ve_op op_addA s_add (ve_op op_addA s_add (vv 1) ve_int) (vv 5)) (va_cons (ve_lst (va_cons ve_int (va_cons ve_int (va_cons ve_int (va_cons ve_int (va_cons ve_int (va_cons ve_int (va_cons ve_int (va_cons ve_int (va_cons ve_int va_nil)))))))))) va_nil)))))
    (vss_cons (vs_set (i := 7) sc__law_task.nd rfl (Or.inl rfl) (ve_lst va_nil))
    (vss_cons (vs_for hp rfl (vi_range1 (by rfl) T.z_range (va_cons (vv 5) va_nil)) (vg_name sc__law_task.nd rfl (Or.inl rfl)) (vss_one (vs_if (vw (vw_and (vt_cmp (op_eqD hr.units) s_eq (ve_ix ix_seq s_ix (vv 6) (ve_op op_addA s_add ve_int (vv 8)) (fun _ _ => rfl)) ve_int (nomark _)) (vw_and1 (vw (vw_or (vt_cmp op_gt s_gt (ve_ix ix_seq s_ix (vv 6) ve_int (fun _ _ => rfl)) ve_int (nomark _)) (vw_or1 (vt_cmp op_ge s_ge (ve_op op_addA s_add (vv 8) ve_int) (vv 5) (nomark _)))))))) (vss_one (vs_app 7 (vv 8))) vss_nil)))
    (vss_one (vs_app 4 (ve_callTy call_tuple_of c_tuple (by rfl) T.z_tuple (by decide +kernel) (va_cons (vv 7) va_nil))))))))
    (vss_cons (vs_set (i := 9) sc__law_task.nd rfl (Or.inl rfl) (ve_lst va_nil))
    (vss_cons (vs_for hp rfl (vi_range1 (by rfl) T.z_range (va_cons (ve_callB call_lenA c_len (by rfl) T.z_len (by decide +kernel) (va_cons (vv 4) va_nil)) va_nil)) (vg_name sc__law_task.nd rfl (Or.inl rfl)) (vss_one (vs_if (vw (vw_and (vt_cmp op_gt s_gt (ve_ix ix_seq s_ix (vv 3) ve_int (fun _ _ => rfl)) ve_int (nomark _)) (vw_and1 (vt_cmp (op_eqD hr.units) s_eq (ve_op op_mod s_mod (ve_op op_fdiv s_div (ve_ix ix_seq s_ix (vv 3) ve_int (fun _ _ => rfl)) (ve_ix ix_seq s_ix (ve_lst (va_cons ve_int (va_cons ve_int (va_cons ve_int (va_cons ve_int (va_cons ve_int (va_cons ve_int (va_cons ve_int (va_cons ve_int va_nil))))))))) (vv 5) (fun _ _ => rfl))) ve_int) ve_int (nomark _))))) (vss_one (vs_app 9 (vv 5))) vss_nil)))
    (vss_cons (vs_if (vt_cmp (op_eqD hr.units) s_eq (ve_callB call_lenA c_len (by rfl) T.z_len (by decide +kernel) (va_cons (vv 9) va_nil)) ve_int (nomark _)) (vss_one (vs_set (i := 9) sc__law_task.nd rfl (Or.inl rfl) (ve_lst (va_cons (ve_op op_sub s_sub (ve_callB call_lenA c_len (by rfl) T.z_len (by decide +kernel) (va_cons (vv 4) va_nil)) ve_int) va_nil)))) vss_nil)
    (vss_one (vs_ret (ve_tup (va_cons (ve_callTy call_tuple_of c_tuple (by rfl) T.z_tuple (by decide +kernel) (va_cons (vv 4) va_nil)) (va_cons (ve_callTy call_tuple_of c_tuple (by rfl) T.z_tuple (by decide +kernel) (va_cons (vv 9) va_nil)) va_nil))))))))))))
abbrev s__law_can : Stmt := topS 16
abbrev n__law_can : List Str := ["_law_uses", "_law_held", "_law_step", "_law_used"]
theorem sc__law_can : FnScope n__law_can ["_law_uses", "_law_held", "_law_step"] (defScope s__law_can) := ⟨rfl, rfl, rfl, by decide +kernel, rfl, by decide +kernel, by decide +kernel⟩
theorem ok__law_can (T : Txt K mg a__law_cell a__law_draw a__law_task a__law_can a__law_moved a__law_ways a__law_paper a_is_possible a_moved a_transitions a_shortest_plan a_levels_of a_certificate a_stands_in a_flaw a_is_right a_law) {fd : FuncData} (F : Fun K "_law_can" "_law_can" s__law_can a__law_can fd) : FnOk P w K mg base (L2.CX P w) 1 a__law_can fd ["_law_uses", "_law_held", "_law_step"] (spV K ca 3 F__law_can) :=
  fn_ok (k := 0) (N := n__law_can) (body := B__law_can) F sc__law_can (fun cdv A outer s H E hr tk hp =>
    (vss_one (vs_ret (ve_callB (cr_all rfl) c_all (by rfl) T.z_all (by decide +kernel) (va_cons (ve_lc (own := [("_law_used", 3)]) rfl sc__law_can.nd (vj_tup (ve_ix ix_seq s_ix (vv 0) (vv 2) (fun _ _ => rfl))) (blkOk_by (own := [("_law_used", 3)]) (N := n__law_can) (sc := defScope s__law_can) (by decide +kernel)) (by decide) (fun _ _ _ _ _ => (vg_name sc__law_can.nd rfl (Or.inl rfl))) (fun _ _ _ _ _ => vts_nil) (fun _ _ _ _ _ => (ve_cmp (op_inA (hu65 hr)) s_in (vv 3) (vv 1) (by rfl)))) va_nil)))))
abbrev s__law_moved : Stmt := topS 17
abbrev n__law_moved : List Str := ["_law_held", "_law_step", "_law_other"]
theorem sc__law_moved : FnScope n__law_moved ["_law_held", "_law_step"] (defScope s__law_moved) := ⟨rfl, rfl, rfl, by decide +kernel, rfl, by decide +kernel, by decide +kernel⟩
theorem ok__law_moved (T : Txt K mg a__law_cell a__law_draw a__law_task a__law_can a__law_moved a__law_ways a__law_paper a_is_possible a_moved a_transitions a_shortest_plan a_levels_of a_certificate a_stands_in a_flaw a_is_right a_law) {fd : FuncData} (F : Fun K "_law_moved" "_law_moved" s__law_moved a__law_moved fd) : FnOk P w K mg base (L2.CX P w) 1 a__law_moved fd ["_law_held", "_law_step"] (spV K ca 2 F__law_moved) :=
  fn_ok (k := 0) (N := n__law_moved) (body := B__law_moved) F sc__law_moved (fun cdv A outer s H E hr tk hp =>
    (vss_cons (vs_if (vt_cmp (op_inA (hu65 hr)) s_in (vv 1) (vv 0) (by rfl)) (vss_one (vs_ret (ve_callTy call_tuple_of c_tuple (by rfl) T.z_tuple (by decide +kernel) (va_cons (ve_lc (own := [("_law_other", 2)]) rfl sc__law_moved.nd (vj_tup (vv 0)) (blkOk_by (own := [("_law_other", 2)]) (N := n__law_moved) (sc := defScope s__law_moved) (by decide +kernel)) (by decide) (fun _ _ _ _ _ => (vg_name sc__law_moved.nd rfl (Or.inl rfl))) (fun _ _ _ _ _ => (vts_one (vt_cmp (op_neD hr.units) s_ne (vv 2) (vv 1) (nomark _)))) (fun _ _ _ _ _ => (vv 2))) va_nil)))) vss_nil)
    (vss_one (vs_ret (ve_callTy call_tuple_of c_tuple (by rfl) T.z_tuple (by decide +kernel) (va_cons (ve_callB cr_sortedI c_sorted (by rfl) T.z_sorted (by decide +kernel) (va_cons (ve_op op_addA s_add (ve_callTy call_list_of c_list (by rfl) T.z_list (by decide +kernel) (va_cons (vv 0) va_nil)) (ve_lst (va_cons (vv 1) va_nil))) va_nil)) va_nil))))))
abbrev s__law_ways : Stmt := topS 18
abbrev n__law_ways : List Str := ["_law_uses", "_law_registers", "_law_start", "_law_ways_here", "_law_found", "_law_at", "_law_here", "_law_step", "_law_there"]
theorem sc__law_ways : FnScope n__law_ways ["_law_uses", "_law_registers", "_law_start"] (defScope s__law_ways) := ⟨rfl, rfl, rfl, by decide +kernel, rfl, by decide +kernel, by decide +kernel⟩
theorem ok__law_ways (T : Txt K mg a__law_cell a__law_draw a__law_task a__law_can a__law_moved a__law_ways a__law_paper a_is_possible a_moved a_transitions a_shortest_plan a_levels_of a_certificate a_stands_in a_flaw a_is_right a_law) {fd__law_can : FuncData} (G__law_can : FnOk P w K mg base (L2.CX P w) 1 a__law_can fd__law_can ["_law_uses", "_law_held", "_law_step"] (spV K ca 3 F__law_can)) (b__law_can : Binds K fd__law_can ["_law_uses", "_law_held", "_law_step"] []) {fd__law_moved : FuncData} (G__law_moved : FnOk P w K mg base (L2.CX P w) 1 a__law_moved fd__law_moved ["_law_held", "_law_step"] (spV K ca 2 F__law_moved)) (b__law_moved : Binds K fd__law_moved ["_law_held", "_law_step"] []) {fd : FuncData} (F : Fun K "_law_ways" "_law_ways" s__law_ways a__law_ways fd) : FnOk P w K mg base (L2.CX P w) 2 a__law_ways fd ["_law_uses", "_law_registers", "_law_start"] (spV K ca 3 F__law_ways) :=
  fn_ok (k := 1) (N := n__law_ways) (body := B__law_ways) F sc__law_ways (fun cdv A outer s H E hr tk hp =>
    (vss_cons (vs_set (i := 3) sc__law_ways.nd rfl (Or.inl rfl) ve_dnewT)
    (vss_cons (vs_set (i := 4) sc__law_ways.nd rfl (Or.inl rfl) (ve_lst va_nil))
    (vss_cons (vs_if (vt_cmp op_le s_le (ve_callB call_lenA c_len (by rfl) T.z_len (by decide +kernel) (va_cons (vv 2) va_nil)) (vv 1) (nomark _)) (vss_cons (vs_storeA 3 (hu1 hr) ve_int (vv 2))
    (vss_one (vs_app 4 (vv 2)))) vss_nil)
    (vss_cons (vs_set (i := 5) sc__law_ways.nd rfl (Or.inl rfl) ve_int)
    (vss_cons (vs_while 100000 hp (vt_cmp op_lt s_lt (vv 5) (ve_callB call_lenA c_len (by rfl) T.z_len (by decide +kernel) (va_cons (vv 4) va_nil)) (nomark _)) (vss_cons (vs_set (i := 6) sc__law_ways.nd rfl (Or.inl rfl) (ve_ix ix_seq s_ix (vv 4) (vv 5) (fun _ _ => rfl)))
    (vss_cons (vs_set (i := 5) sc__law_ways.nd rfl (Or.inl rfl) (ve_op op_addA s_add (vv 5) ve_int))
    (vss_one (vs_for hp rfl (vi_range1 (by rfl) T.z_range (va_cons (ve_callB call_lenA c_len (by rfl) T.z_len (by decide +kernel) (va_cons (vv 0) va_nil)) va_nil)) (vg_name sc__law_ways.nd rfl (Or.inl rfl)) (vss_one (vs_if (vt_val (ve_call G__law_can (hr.mono (by decide)) (by rfl) T.g__law_can T.k__law_can b__law_can tk (va_cons (vv 0) (va_cons (vv 6) (va_cons (vv 7) va_nil))))) (vss_cons (vs_set (i := 8) sc__law_ways.nd rfl (Or.inl rfl) (ve_call G__law_moved (hr.mono (by decide)) (by rfl) T.g__law_moved T.k__law_moved b__law_moved tk (va_cons (vv 6) (va_cons (vv 7) va_nil))))
    (vss_one (vs_if (vw (vw_and (vt_cmp op_le s_le (ve_callB call_lenA c_len (by rfl) T.z_len (by decide +kernel) (va_cons (vv 8) va_nil)) (vv 1) (nomark _)) (vw_and1 (vt_cmp (op_notInD2 (hu1 hr)) s_notInD (vv 8) (vv 3) (by rfl))))) (vss_cons (vs_storeA 3 (hu1 hr) (ve_op op_addA s_add (ve_ix (ix_d (hu1 hr)) s_ixD (vv 3) (vv 6) (fun _ _ => rfl)) ve_int) (vv 8))
    (vss_one (vs_fz 8 (vs_app 4 (vv 8))))) vss_nil))) vss_nil)))))))
    (vss_one (vs_retv 3))))))))
abbrev s__law_paper : Stmt := topS 19
abbrev n__law_paper : List Str := ["_law_script", "_law_at", "_law_task_here", "_law_registers", "_law_ways_here", "_law_digits", "_law_moves", "_law_many", "_law_levels", "_law_k", "_law_powers", "_law_odd", "_law_j", "_law_held", "_law_level"]
theorem sc__law_paper : FnScope n__law_paper ["_law_script", "_law_at", "_law_task_here", "_law_registers"] (defScope s__law_paper) := ⟨rfl, rfl, rfl, by decide +kernel, rfl, by decide +kernel, by decide +kernel⟩
theorem ok__law_paper (T : Txt K mg a__law_cell a__law_draw a__law_task a__law_can a__law_moved a__law_ways a__law_paper a_is_possible a_moved a_transitions a_shortest_plan a_levels_of a_certificate a_stands_in a_flaw a_is_right a_law) {fd__law_ways : FuncData} (G__law_ways : FnOk P w K mg base (L2.CX P w) 2 a__law_ways fd__law_ways ["_law_uses", "_law_registers", "_law_start"] (spV K ca 3 F__law_ways)) (b__law_ways : Binds K fd__law_ways ["_law_uses", "_law_registers", "_law_start"] []) {fd__law_draw : FuncData} (G__law_draw : FnOk P w K mg base (L2.CX P w) 2 a__law_draw fd__law_draw ["_law_script", "_law_k", "_law_sizes"] (spV K ca 3 F__law_draw)) (b__law_draw : Binds K fd__law_draw ["_law_script", "_law_k", "_law_sizes"] []) {fd : FuncData} (F : Fun K "_law_paper" "_law_paper" s__law_paper a__law_paper fd) : FnOk P w K mg base (L2.CX P w) 3 a__law_paper fd ["_law_script", "_law_at", "_law_task_here", "_law_registers"] (spV K ca 4 F__law_paper) :=
  fn_ok (k := 2) (N := n__law_paper) (body := B__law_paper) F sc__law_paper (fun cdv A outer s H E hr tk hp =>
    (vss_cons (vs_fz 3 (vs_set (i := 4) sc__law_paper.nd rfl (Or.inr rfl) (ve_call G__law_ways (hr.mono (by decide)) (by rfl) T.g__law_ways T.k__law_ways b__law_ways tk (va_cons (ve_ix ix_seq s_ix (vv 2) ve_int (fun _ _ => rfl)) (va_cons (vv 3) (va_cons (ve_tup va_nil) va_nil))))))
    (vss_cons (vs_set (i := 5) sc__law_paper.nd rfl (Or.inr rfl) (ve_call G__law_draw (hr.mono (by decide)) (by rfl) T.g__law_draw T.k__law_draw b__law_draw tk (va_cons (vv 0) (va_cons (vv 1) (va_cons (ve_lst (va_cons ve_int (va_cons ve_int (va_cons ve_int (va_cons ve_int (va_cons ve_int va_nil)))))) va_nil)))))
    (vss_cons (vs_set (i := 6) sc__law_paper.nd rfl (Or.inl rfl) ve_non)
    (vss_cons (vs_set (i := 7) sc__law_paper.nd rfl (Or.inl rfl) (ve_op op_addA s_add ve_int (ve_maxV rfl (by rfl) T.z_max (vv 4))))
    (vss_cons (vs_if (vt_cmp (op_inD2 (hu1 hr)) s_inD (ve_ix ix_seq s_ix (vv 2) ve_int (fun _ _ => rfl)) (vv 4) (by rfl)) (vss_cons (vs_set (i := 6) sc__law_paper.nd rfl (Or.inl rfl) (ve_ix (ix_d (hu1 hr)) s_ixD (vv 4) (ve_ix ix_seq s_ix (vv 2) ve_int (fun _ _ => rfl)) (fun _ _ => rfl)))
    (vss_one (vs_fz 6 (vs_set (i := 7) sc__law_paper.nd rfl (Or.inl rfl) (vv 6))))) vss_nil)
    (vss_cons (vs_setLc (i := 8) (own := [("_law_k", 9)]) rfl sc__law_paper.nd rfl rfl (sw_true rfl rfl rfl (by decide +kernel)) (vi_range1 (by rfl) T.z_range (va_cons (vv 7) va_nil)).vj (blkOk_by (own := [("_law_k", 9)]) (N := n__law_paper) (sc := defScope s__law_paper) (by decide +kernel)) (by decide) (fun _ _ _ _ _ => (vg_name sc__law_paper.nd rfl (Or.inr rfl))) (fun _ _ _ _ _ => vts_nil) (fun _ _ _ _ _ => (ve_callB (cr_sortedRowsA (hu65 hr)) c_sortedA (by rfl) T.z_sorted (by decide +kernel) (va_cons (ve_lc (own := [("_law_held", 13)]) rfl sc__law_paper.nd (vj_dict (vv 4)) (blkOk_by (own := [("_law_held", 13)]) (N := n__law_paper) (sc := _) (by rfl)) (by decide) (fun _ _ _ _ _ => (vg_name sc__law_paper.nd rfl (Or.inl rfl))) (fun _ _ _ _ _ => (vts_one (vt_cmp (op_eqD hr.units) s_eq (ve_ix (ix_d (hu1 hr)) s_ixD (vv 4) (vv 13) (fun _ _ => rfl)) (vv 9) (nomark _)))) (fun _ _ _ _ _ => (vv 13))) va_nil))))
    (vss_cons (vs_set (i := 9) sc__law_paper.nd rfl (Or.inl rfl) (ve_op op_mod s_mod (ve_ix ix_seq s_ix (vv 5) ve_int (fun _ _ => rfl)) (ve_callB call_lenA c_len (by rfl) T.z_len (by decide +kernel) (va_cons (vv 8) va_nil))))
    (vss_cons (vs_set (i := 10) sc__law_paper.nd rfl (Or.inr rfl) (ve_lst (va_cons ve_int (va_cons ve_int (va_cons ve_int (va_cons ve_int (va_cons ve_int (va_cons ve_int va_nil))))))))
    (vss_cons (vs_set (i := 11) sc__law_paper.nd rfl (Or.inl rfl) (ve_callTy call_tuple_of c_tuple (by rfl) T.z_tuple (by decide +kernel) (va_cons (ve_lc (own := [("_law_j", 12)]) rfl sc__law_paper.nd (vi_range1 (by rfl) T.z_range (va_cons (ve_callB call_lenA c_len (by rfl) T.z_len (by decide +kernel) (va_cons (ve_ix ix_seq s_ix (vv 2) ve_int (fun _ _ => rfl)) va_nil)) va_nil)).vj (blkOk_by (own := [("_law_j", 12)]) (N := n__law_paper) (sc := defScope s__law_paper) (by decide +kernel)) (by decide) (fun _ _ _ _ _ => (vg_name sc__law_paper.nd rfl (Or.inl rfl))) (fun _ _ _ _ _ => (vts_one (vt_cmp (op_eqD hr.units) s_eq (ve_op op_mod s_mod (ve_op op_fdiv s_div (ve_ix ix_seq s_ix (vv 5) ve_int (fun _ _ => rfl)) (ve_ix ix_seq s_ix (vv 10) (vv 12) (fun _ _ => rfl))) ve_int) ve_int (nomark _)))) (fun _ _ _ _ _ => (vv 12))) va_nil)))
    (vss_cons (vs_if (vw (vw_and (vt_cmp (op_eqD hr.units) s_eq (ve_ix ix_seq s_ix (vv 5) ve_int (fun _ _ => rfl)) ve_int (nomark _)) (vw_and1 (vt_cmp op_gt s_gt (ve_callB call_lenA c_len (by rfl) T.z_len (by decide +kernel) (va_cons (ve_ix ix_seq s_ix (vv 8) (vv 9) (fun _ _ => rfl)) va_nil)) ve_int (nomark _))))) (vss_cons (vs_set (i := 12) sc__law_paper.nd rfl (Or.inl rfl) (ve_op op_mod s_mod (ve_ix ix_seq s_ix (vv 5) ve_int (fun _ _ => rfl)) (ve_callB call_lenA c_len (by rfl) T.z_len (by decide +kernel) (va_cons (ve_ix ix_seq s_ix (vv 8) (vv 9) (fun _ _ => rfl)) va_nil))))
    (vss_one (vs_store 8 (ve_op op_addA s_add (ve_sl (ve_ix ix_seq s_ix (vv 8) (vv 9) (fun _ _ => rfl)) vo_none (vo_some (vv 12))) (ve_sl (ve_ix ix_seq s_ix (vv 8) (vv 9) (fun _ _ => rfl)) (vo_some (ve_op op_addA s_add (vv 12) ve_int)) vo_none)) (vv 9)))) (vss_one (vs_if (vt_cmp (op_eqD hr.units) s_eq (ve_ix ix_seq s_ix (vv 5) ve_int (fun _ _ => rfl)) ve_int (nomark _)) (vss_one (vs_store 8 (ve_op op_addA s_add (ve_ix ix_seq s_ix (vv 8) (vv 9) (fun _ _ => rfl)) (ve_lst (va_cons (vv 11) va_nil))) (vv 9))) (vss_one (vs_if (vt_cmp (op_eqD hr.units) s_eq (ve_ix ix_seq s_ix (vv 5) ve_int (fun _ _ => rfl)) ve_int (nomark _)) (vss_cons (vs_set (i := 8) sc__law_paper.nd rfl (Or.inl rfl) (ve_op op_addA s_add (ve_sl (vv 8) vo_none (vo_some (vv 9))) (ve_sl (vv 8) (vo_some (ve_op op_addA s_add (vv 9) ve_int)) vo_none)))
    (vss_one (vs_if (vt_cmp (op_eqD hr.units) s_eq (ve_callB call_lenA c_len (by rfl) T.z_len (by decide +kernel) (va_cons (vv 8) va_nil)) ve_int (nomark _)) (vss_one (vs_set (i := 8) sc__law_paper.nd rfl (Or.inl rfl) (ve_lst (va_cons (ve_lst (va_cons (ve_tup va_nil) va_nil)) va_nil)))) vss_nil))) (vss_one (vs_if (vt_cmp (op_eqD hr.units) s_eq (ve_ix ix_seq s_ix (vv 5) ve_int (fun _ _ => rfl)) ve_int (nomark _)) (vss_one (vs_set (i := 8) sc__law_paper.nd rfl (Or.inl rfl) (ve_op op_addA s_add (vv 8) (ve_lst (va_cons (ve_lst (va_cons (vv 11) va_nil)) va_nil))))) (vss_one (vs_if (vt_cmp (op_eqD hr.units) s_eq (ve_ix ix_seq s_ix (vv 5) ve_int (fun _ _ => rfl)) ve_int (nomark _)) (vss_one (vs_set (i := 6) sc__law_paper.nd rfl (Or.inl rfl) (ve_ix ix_seq s_ix (ve_lst (va_cons ve_non (va_cons (ve_op op_addA s_add ve_int (ve_ix ix_seq s_ix (vv 5) ve_int (fun _ _ => rfl))) (va_cons (ve_callB call_lenA c_len (by rfl) T.z_len (by decide +kernel) (va_cons (vv 8) va_nil)) va_nil)))) (ve_op op_mod s_mod (ve_ix ix_seq s_ix (vv 5) ve_int (fun _ _ => rfl)) ve_int) (fun _ _ => rfl)))) (vss_one (vs_if (vt_cmp (op_eqD hr.units) s_eq (ve_ix ix_seq s_ix (vv 5) ve_int (fun _ _ => rfl)) ve_int (nomark _)) (vss_one (vs_set (i := 3) sc__law_paper.nd rfl (Or.inl rfl) (ve_op op_addA s_add ve_int (ve_op op_mod s_mod (ve_op op_addA s_add (vv 3) (ve_ix ix_seq s_ix (vv 5) ve_int (fun _ _ => rfl))) ve_int)))) (vss_one (vs_if (vt_cmp (op_eqD hr.units) s_eq (ve_ix ix_seq s_ix (vv 5) ve_int (fun _ _ => rfl)) ve_int (nomark _)) (vss_cons (vs_store 8 (ve_rev (ve_ix ix_seq s_ix (vv 8) (vv 9) (fun _ _ => rfl))) (vv 9))
    (vss_cons (vs_set (i := 8) sc__law_paper.nd rfl (Or.inl rfl) (ve_op op_addA s_add (vv 8) (ve_lst (va_cons (ve_lst va_nil) va_nil))))
    (vss_one (vs_if (vt_cmp op_notN s_isNot (vv 6) ve_non (nomark _)) (vss_one (vs_set (i := 6) sc__law_paper.nd rfl (Or.inl rfl) (ve_op op_addA s_add (vv 6) ve_int))) vss_nil)))) (vss_one (vs_if (vw (vw_and (vt_cmp (op_eqD hr.units) s_eq (ve_ix ix_seq s_ix (vv 5) ve_int (fun _ _ => rfl)) ve_int (nomark _)) (vw_and1 (vt_cmp op_gt s_gt (ve_callB call_lenA c_len (by rfl) T.z_len (by decide +kernel) (va_cons (vv 8) va_nil)) ve_int (nomark _))))) (vss_one (vs_store 8 (ve_op op_addA s_add (ve_ix ix_seq s_ix (vv 8) ve_int (fun _ _ => rfl)) (ve_ix ix_seq s_ix (vv 8) ve_int (fun _ _ => rfl))) ve_int)) vss_nil)))))))))))))))
    (vss_one (vs_fz 6 (vs_fz 3 (vs_ret (ve_tup (va_cons (vv 3) (va_cons (vv 6) (va_cons (ve_callTy call_tuple_of c_tuple (by rfl) T.z_tuple (by decide +kernel) (va_cons (ve_lc (own := [("_law_level", 14)]) rfl sc__law_paper.nd (vj_any (vv 8)) (blkOk_by (own := [("_law_level", 14)]) (N := n__law_paper) (sc := defScope s__law_paper) (by decide +kernel)) (by decide) (fun _ _ _ _ _ => (vg_name sc__law_paper.nd rfl (Or.inl rfl))) (fun _ _ _ _ _ => vts_nil) (fun _ _ _ _ _ => (ve_callTy call_tuple_of c_tuple (by rfl) T.z_tuple (by decide +kernel) (va_cons (vv 14) va_nil)))) va_nil)) va_nil)))))))))))))))))))
abbrev s_is_possible : Stmt := topS 1
abbrev n_is_possible : List Str := ["task", "configuration", "move", "step"]
theorem sc_is_possible : FnScope n_is_possible ["task", "configuration", "move"] (defScope s_is_possible) := ⟨rfl, rfl, rfl, by decide +kernel, rfl, by decide +kernel, by decide +kernel⟩
theorem ok_is_possible (T : Txt K mg a__law_cell a__law_draw a__law_task a__law_can a__law_moved a__law_ways a__law_paper a_is_possible a_moved a_transitions a_shortest_plan a_levels_of a_certificate a_stands_in a_flaw a_is_right a_law) {fd : FuncData} (F : Fun K "is_possible" "is_possible" s_is_possible a_is_possible fd) : FnOk P w K mg base (L2.CX P w) 1 a_is_possible fd ["task", "configuration", "move"] (spV K ca 3 F_is_possible) :=
  fn_ok (k := 0) (N := n_is_possible) (body := B_is_possible) F sc_is_possible (fun cdv A outer s H E hr tk hp =>
    (vss_cons (vs_for hp rfl (vi_any (ve_ix ix_seq s_ix (ve_ix ix_seq s_ix (vv 0) ve_int (fun _ _ => rfl)) (vv 2) (fun _ _ => rfl))) (vg_name sc_is_possible.nd rfl (Or.inl rfl)) (vss_one (vs_if (vt_cmp (op_notInA (hu65 hr)) s_notIn (vv 3) (vv 1) (by rfl)) (vss_one (vs_ret ve_bl)) vss_nil)))
    (vss_one (vs_ret ve_bl))))
abbrev s_moved : Stmt := topS 2
abbrev n_moved : List Str := ["configuration", "move", "step"]
theorem sc_moved : FnScope n_moved ["configuration", "move"] (defScope s_moved) := ⟨rfl, rfl, rfl, by decide +kernel, rfl, by decide +kernel, by decide +kernel⟩
theorem ok_moved (T : Txt K mg a__law_cell a__law_draw a__law_task a__law_can a__law_moved a__law_ways a__law_paper a_is_possible a_moved a_transitions a_shortest_plan a_levels_of a_certificate a_stands_in a_flaw a_is_right a_law) {fd : FuncData} (F : Fun K "moved" "moved" s_moved a_moved fd) : FnOk P w K mg base (L2.CX P w) 1 a_moved fd ["configuration", "move"] (spV K ca 2 F_moved) :=
  fn_ok (k := 0) (N := n_moved) (body := B_moved) F sc_moved (fun cdv A outer s H E hr tk hp =>
    (vss_cons (vs_if (vt_cmp (op_inA (hu65 hr)) s_in (vv 1) (vv 0) (by rfl)) (vss_one (vs_ret (ve_callTy call_tuple_of c_tuple (by rfl) T.z_tuple (by decide +kernel) (va_cons (ve_lc (own := [("step", 2)]) rfl sc_moved.nd (vj_any (vv 0)) (blkOk_by (own := [("step", 2)]) (N := n_moved) (sc := defScope s_moved) (by decide +kernel)) (by decide) (fun _ _ _ _ _ => (vg_name sc_moved.nd rfl (Or.inl rfl))) (fun _ _ _ _ _ => (vts_one (vt_cmp (op_neD hr.units) s_ne (vv 2) (vv 1) (nomark _)))) (fun _ _ _ _ _ => (vv 2))) va_nil)))) vss_nil)
    (vss_one (vs_ret (ve_callTy call_tuple_of c_tuple (by rfl) T.z_tuple (by decide +kernel) (va_cons (ve_callB cr_sortedI c_sorted (by rfl) T.z_sorted (by decide +kernel) (va_cons (ve_op op_addA s_add (ve_callTy call_list_of c_list (by rfl) T.z_list (by decide +kernel) (va_cons (vv 0) va_nil)) (ve_lst (va_cons (vv 1) va_nil))) va_nil)) va_nil))))))
abbrev s_transitions : Stmt := topS 4
abbrev n_transitions : List Str := ["task", "configuration", "registers", "found", "move", "later"]
theorem sc_transitions : FnScope n_transitions ["task", "configuration", "registers"] (defScope s_transitions) := ⟨rfl, rfl, rfl, by decide +kernel, rfl, by decide +kernel, by decide +kernel⟩
theorem ok_transitions (T : Txt K mg a__law_cell a__law_draw a__law_task a__law_can a__law_moved a__law_ways a__law_paper a_is_possible a_moved a_transitions a_shortest_plan a_levels_of a_certificate a_stands_in a_flaw a_is_right a_law) {fd_is_possible : FuncData} (G_is_possible : FnOk P w K mg base (L2.CX P w) 1 a_is_possible fd_is_possible ["task", "configuration", "move"] (spV K ca 3 F_is_possible)) (b_is_possible : Binds K fd_is_possible ["task", "configuration", "move"] []) {fd_moved : FuncData} (G_moved : FnOk P w K mg base (L2.CX P w) 1 a_moved fd_moved ["configuration", "move"] (spV K ca 2 F_moved)) (b_moved : Binds K fd_moved ["configuration", "move"] []) {fd : FuncData} (F : Fun K "transitions" "transitions" s_transitions a_transitions fd) : FnOk P w K mg base (L2.CX P w) 2 a_transitions fd ["task", "configuration", "registers"] (spV K ca 3 F_transitions) :=
  fn_ok (k := 1) (N := n_transitions) (body := B_transitions) F sc_transitions (fun cdv A outer s H E hr tk hp =>
    (vss_cons (vs_set (i := 3) sc_transitions.nd rfl (Or.inl rfl) (ve_lst va_nil))
    (vss_cons (vs_for hp rfl (vi_range1 (by rfl) T.z_range (va_cons (ve_callB call_lenA c_len (by rfl) T.z_len (by decide +kernel) (va_cons (ve_ix ix_seq s_ix (vv 0) ve_int (fun _ _ => rfl)) va_nil)) va_nil)) (vg_name sc_transitions.nd rfl (Or.inl rfl)) (vss_one (vs_if (vt_val (ve_call G_is_possible (hr.mono (by decide)) (by rfl) T.g_is_possible T.k_is_possible b_is_possible tk (va_cons (vv 0) (va_cons (vv 1) (va_cons (vv 4) va_nil))))) (vss_cons (vs_set (i := 5) sc_transitions.nd rfl (Or.inl rfl) (ve_call G_moved (hr.mono (by decide)) (by rfl) T.g_moved T.k_moved b_moved tk (va_cons (vv 1) (va_cons (vv 4) va_nil))))
    (vss_one (vs_if (vt_cmp op_le s_le (ve_callB call_lenA c_len (by rfl) T.z_len (by decide +kernel) (va_cons (vv 5) va_nil)) (vv 2) (nomark _)) (vss_one (vs_fz 5 (vs_app 3 (ve_tup (va_cons (vv 4) (va_cons (vv 5) va_nil)))))) vss_nil))) vss_nil)))
    (vss_one (vs_retv 3)))))
abbrev s_shortest_plan : Stmt := topS 5
abbrev n_shortest_plan : List Str := ["task", "registers", "start", "goal", "plans", "queue", "at", "configuration", "move", "later"]
theorem sc_shortest_plan : FnScope n_shortest_plan ["task", "registers", "start", "goal"] (defScope s_shortest_plan) := ⟨rfl, rfl, rfl, by decide +kernel, rfl, by decide +kernel, by decide +kernel⟩
theorem ok_shortest_plan (T : Txt K mg a__law_cell a__law_draw a__law_task a__law_can a__law_moved a__law_ways a__law_paper a_is_possible a_moved a_transitions a_shortest_plan a_levels_of a_certificate a_stands_in a_flaw a_is_right a_law) {fd_transitions : FuncData} (G_transitions : FnOk P w K mg base (L2.CX P w) 2 a_transitions fd_transitions ["task", "configuration", "registers"] (spV K ca 3 F_transitions)) (b_transitions : Binds K fd_transitions ["task", "configuration", "registers"] []) {fd : FuncData} {dl_shortest_plan : List (Str × V)} (F : FunD K "shortest_plan" "shortest_plan" (defArgs s_shortest_plan) (defBody s_shortest_plan) (defScope s_shortest_plan) [] dl_shortest_plan a_shortest_plan fd) : FnOk P w K mg base (L2.CX P w) 3 a_shortest_plan fd ["task", "registers", "start", "goal"] (spV K ca 4 F_shortest_plan) :=
  fnD_ok (k := 2) (N := n_shortest_plan) (body := B_shortest_plan) F sc_shortest_plan (fun cdv A outer s H E hr tk hp =>
    (vss_cons (vs_if (vt_cmp op_isN s_is (vv 3) ve_non (nomark _)) (vss_one (vs_set (i := 3) sc_shortest_plan.nd rfl (Or.inl rfl) (ve_ix ix_seq s_ix (vv 0) ve_int (fun _ _ => rfl)))) vss_nil)
    (vss_cons (vs_if (vt_cmp op_gt s_gt (ve_callB call_lenA c_len (by rfl) T.z_len (by decide +kernel) (va_cons (vv 2) va_nil)) (vv 1) (nomark _)) (vss_one (vs_ret ve_non)) vss_nil)
    (vss_cons (vs_set (i := 4) sc_shortest_plan.nd rfl (Or.inl rfl) (ve_disp1 (hu1 hr) (vv 2) (ve_lst va_nil)))
    (vss_cons (vs_set (i := 5) sc_shortest_plan.nd rfl (Or.inl rfl) (ve_lst (va_cons (vv 2) va_nil)))
    (vss_cons (vs_set (i := 6) sc_shortest_plan.nd rfl (Or.inl rfl) ve_int)
    (vss_cons (vs_while 100000 hp (vt_cmp op_lt s_lt (vv 6) (ve_callB call_lenA c_len (by rfl) T.z_len (by decide +kernel) (va_cons (vv 5) va_nil)) (nomark _)) (vss_cons (vs_set (i := 7) sc_shortest_plan.nd rfl (Or.inl rfl) (ve_ix ix_seq s_ix (vv 5) (vv 6) (fun _ _ => rfl)))
    (vss_cons (vs_augI (i := 6) sc_shortest_plan.nd rfl (Or.inl rfl) ve_int)
    (vss_cons (vs_if (vt_cmp (op_eqD hr.units) s_eq (vv 7) (vv 3) (nomark _)) (vss_one (vs_ret (ve_ix (ix_d (hu1 hr)) s_ixD (vv 4) (vv 7) (fun _ _ => rfl)))) vss_nil)
    (vss_one (vs_for hp rfl (vi_any (ve_call G_transitions (hr.mono (by decide)) (by rfl) T.g_transitions T.k_transitions b_transitions tk (va_cons (vv 0) (va_cons (vv 7) (va_cons (vv 1) va_nil))))) (vg_tup rfl (vgs_cons sc_shortest_plan.nd rfl (Or.inl rfl) (vgs_cons sc_shortest_plan.nd rfl (Or.inl rfl) vgs_nil))) (vss_one (vs_if (vt_cmp (op_notInD2 (hu1 hr)) s_notInD (vv 9) (vv 4) (by rfl)) (vss_cons (vs_storeA 4 (hu1 hr) (ve_op op_addA s_add (ve_ix (ix_d (hu1 hr)) s_ixD (vv 4) (vv 7) (fun _ _ => rfl)) (ve_lst (va_cons (vv 8) va_nil))) (vv 9))
    (vss_one (vs_app 5 (vv 9)))) vss_nil))))))))
    (vss_one (vs_ret ve_non)))))))))
abbrev s_levels_of : Stmt := topS 7
abbrev n_levels_of : List Str := ["task", "registers", "reached", "levels", "level", "configuration", "_", "later"]
theorem sc_levels_of : FnScope n_levels_of ["task", "registers"] (defScope s_levels_of) := ⟨rfl, rfl, rfl, by decide +kernel, rfl, by decide +kernel, by decide +kernel⟩
theorem ok_levels_of (T : Txt K mg a__law_cell a__law_draw a__law_task a__law_can a__law_moved a__law_ways a__law_paper a_is_possible a_moved a_transitions a_shortest_plan a_levels_of a_certificate a_stands_in a_flaw a_is_right a_law) {fd_transitions : FuncData} (G_transitions : FnOk P w K mg base (L2.CX P w) 2 a_transitions fd_transitions ["task", "configuration", "registers"] (spV K ca 3 F_transitions)) (b_transitions : Binds K fd_transitions ["task", "configuration", "registers"] []) {fd : FuncData} (F : Fun K "levels_of" "levels_of" s_levels_of a_levels_of fd) : FnOk P w K mg base (L2.CX P w) 3 a_levels_of fd ["task", "registers"] (spV K ca 2 F_levels_of) :=
  fn_ok (k := 2) (N := n_levels_of) (body := B_levels_of) F sc_levels_of (fun cdv A outer s H E hr tk hp =>
    (vss_cons (vs_set (i := 2) sc_levels_of.nd rfl (Or.inl rfl) (ve_lst (va_cons (ve_tup va_nil) va_nil)))
    (vss_cons (vs_set (i := 3) sc_levels_of.nd rfl (Or.inl rfl) (ve_lst (va_cons (ve_tup (va_cons (ve_tup va_nil) va_nil)) va_nil)))
    (vss_cons (vs_while 100000 hp (vt_cmp op_gt s_gt (ve_callB call_lenA c_len (by rfl) T.z_len (by decide +kernel) (va_cons (ve_ix ix_seq s_ix (vv 3) (ve_un un_neg s_neg ve_int) (fun _ _ => rfl)) va_nil)) ve_int (nomark _)) (vss_cons (vs_set (i := 4) sc_levels_of.nd rfl (Or.inl rfl) (ve_lst va_nil))
    (vss_cons (vs_for hp rfl (vi_any (ve_ix ix_seq s_ix (vv 3) (ve_un un_neg s_neg ve_int) (fun _ _ => rfl))) (vg_name sc_levels_of.nd rfl (Or.inl rfl)) (vss_one (vs_for hp rfl (vi_any (ve_call G_transitions (hr.mono (by decide)) (by rfl) T.g_transitions T.k_transitions b_transitions tk (va_cons (vv 0) (va_cons (vv 5) (va_cons (vv 1) va_nil))))) (vg_tup rfl (vgs_cons sc_levels_of.nd rfl (Or.inl rfl) (vgs_cons sc_levels_of.nd rfl (Or.inl rfl) vgs_nil))) (vss_one (vs_if (vt_cmp (op_notInA (hu65 hr)) s_notIn (vv 7) (vv 2) (by rfl)) (vss_cons (vs_app 2 (vv 7))
    (vss_one (vs_app 4 (vv 7)))) vss_nil)))))
    (vss_one (vs_app 3 (ve_callTy call_tuple_of c_tuple (by rfl) T.z_tuple (by decide +kernel) (va_cons (ve_callB (cr_sortedRowsA (hu65 hr)) c_sortedA (by rfl) T.z_sorted (by decide +kernel) (va_cons (vv 4) va_nil)) va_nil)))))))
    (vss_one (vs_ret (ve_sl (vv 3) vo_none (vo_some (ve_un un_neg s_neg ve_int)))))))))
abbrev s_certificate : Stmt := topS 8
abbrev n_certificate : List Str := ["task", "registers", "plan", "levels"]
theorem sc_certificate : FnScope n_certificate ["task", "registers"] (defScope s_certificate) := ⟨rfl, rfl, rfl, by decide +kernel, rfl, by decide +kernel, by decide +kernel⟩
theorem ok_certificate (T : Txt K mg a__law_cell a__law_draw a__law_task a__law_can a__law_moved a__law_ways a__law_paper a_is_possible a_moved a_transitions a_shortest_plan a_levels_of a_certificate a_stands_in a_flaw a_is_right a_law) {fd_shortest_plan : FuncData} (G_shortest_plan : FnOk P w K mg base (L2.CX P w) 3 a_shortest_plan fd_shortest_plan ["task", "registers", "start", "goal"] (spV K ca 4 F_shortest_plan)) (b_shortest_plan_0 : DBn K fd_shortest_plan ["task", "registers", "start", "goal"] [.tuple [], .none]) {fd_levels_of : FuncData} (G_levels_of : FnOk P w K mg base (L2.CX P w) 3 a_levels_of fd_levels_of ["task", "registers"] (spV K ca 2 F_levels_of)) (b_levels_of : Binds K fd_levels_of ["task", "registers"] []) {fd : FuncData} (F : Fun K "certificate" "certificate" s_certificate a_certificate fd) : FnOk P w K mg base (L2.CX P w) 4 a_certificate fd ["task", "registers"] (spV K ca 2 F_certificate) :=
  fn_ok (k := 3) (N := n_certificate) (body := B_certificate) F sc_certificate (fun cdv A outer s H E hr tk hp =>
    (vss_cons (vs_set (i := 2) sc_certificate.nd rfl (Or.inl rfl) (ve_callD G_shortest_plan (hr.mono (by decide)) (by rfl) T.g_shortest_plan T.k_shortest_plan b_shortest_plan_0 tk (va_cons (vv 0) (va_cons (vv 1) va_nil))))
    (vss_cons (vs_set (i := 3) sc_certificate.nd rfl (Or.inl rfl) (ve_call G_levels_of (hr.mono (by decide)) (by rfl) T.g_levels_of T.k_levels_of b_levels_of tk (va_cons (vv 0) (va_cons (vv 1) va_nil))))
    (vss_cons (vs_if (vt_cmp op_isN s_is (vv 2) ve_non (nomark _)) (vss_one (vs_ret (ve_tup (va_cons (vv 1) (va_cons ve_non (va_cons (ve_callTy call_tuple_of c_tuple (by rfl) T.z_tuple (by decide +kernel) (va_cons (vv 3) va_nil)) va_nil)))))) vss_nil)
    (vss_one (vs_ret (ve_tup (va_cons (vv 1) (va_cons (ve_callB call_lenA c_len (by rfl) T.z_len (by decide +kernel) (va_cons (vv 2) va_nil)) (va_cons (ve_callTy call_tuple_of c_tuple (by rfl) T.z_tuple (by decide +kernel) (va_cons (ve_sl (vv 3) vo_none (vo_some (ve_callB call_lenA c_len (by rfl) T.z_len (by decide +kernel) (va_cons (vv 2) va_nil)))) va_nil)) va_nil))))))))))
abbrev s_stands_in : Stmt := topS 9
abbrev n_stands_in : List Str := ["levels", "configuration", "level"]
theorem sc_stands_in : FnScope n_stands_in ["levels", "configuration"] (defScope s_stands_in) := ⟨rfl, rfl, rfl, by decide +kernel, rfl, by decide +kernel, by decide +kernel⟩
theorem ok_stands_in (T : Txt K mg a__law_cell a__law_draw a__law_task a__law_can a__law_moved a__law_ways a__law_paper a_is_possible a_moved a_transitions a_shortest_plan a_levels_of a_certificate a_stands_in a_flaw a_is_right a_law) {fd : FuncData} (F : Fun K "stands_in" "stands_in" s_stands_in a_stands_in fd) : FnOk P w K mg base (L2.CX P w) 1 a_stands_in fd ["levels", "configuration"] (spV K ca 2 F_stands_in) :=
  fn_ok (k := 0) (N := n_stands_in) (body := B_stands_in) F sc_stands_in (fun cdv A outer s H E hr tk hp =>
    (vss_cons (vs_for hp rfl (vi_any (vv 0)) (vg_name sc_stands_in.nd rfl (Or.inl rfl)) (vss_one (vs_if (vt_cmp (op_inA (hu65 hr)) s_in (vv 1) (vv 2) (by rfl)) (vss_one (vs_ret ve_bl)) vss_nil)))
    (vss_one (vs_ret ve_bl))))
abbrev s_flaw : Stmt := topS 10
abbrev n_flaw : List Str := ["task", "certificate", "registers", "moves", "levels", "k", "last", "configuration", "step", "later"]
theorem sc_flaw : FnScope n_flaw ["task", "certificate"] (defScope s_flaw) := ⟨rfl, rfl, rfl, by decide +kernel, rfl, by decide +kernel, by decide +kernel⟩
theorem ok_flaw (T : Txt K mg a__law_cell a__law_draw a__law_task a__law_can a__law_moved a__law_ways a__law_paper a_is_possible a_moved a_transitions a_shortest_plan a_levels_of a_certificate a_stands_in a_flaw a_is_right a_law) {fd_transitions : FuncData} (G_transitions : FnOk P w K mg base (L2.CX P w) 2 a_transitions fd_transitions ["task", "configuration", "registers"] (spV K ca 3 F_transitions)) (b_transitions : Binds K fd_transitions ["task", "configuration", "registers"] []) {fd_stands_in : FuncData} (G_stands_in : FnOk P w K mg base (L2.CX P w) 1 a_stands_in fd_stands_in ["levels", "configuration"] (spV K ca 2 F_stands_in)) (b_stands_in : Binds K fd_stands_in ["levels", "configuration"] []) {fd : FuncData} (F : Fun K "flaw" "flaw" s_flaw a_flaw fd) : FnOk P w K mg base (L2.CX P w) 3 a_flaw fd ["task", "certificate"] (spV K ca 2 F_flaw) :=
  fn_ok (k := 2) (N := n_flaw) (body := B_flaw) F sc_flaw (fun cdv A outer s H E hr tk hp =>
    (vss_cons (vs_unp (vv 1) (vg_tup rfl (vgs_cons sc_flaw.nd rfl (Or.inl rfl) (vgs_cons sc_flaw.nd rfl (Or.inl rfl) (vgs_cons sc_flaw.nd rfl (Or.inl rfl) vgs_nil)))))
    (vss_cons (vs_if (vt_cmp (op_notInA (hu65 hr)) s_notIn (ve_tup va_nil) (ve_ix ix_seq s_ix (vv 4) ve_int (fun _ _ => rfl)) (by rfl)) (vss_one (vs_ret (ve_tup (va_cons ve_str va_nil)))) vss_nil)
    (vss_cons (vs_if (vw (vw_and (vt_cmp op_notN s_isNot (vv 3) ve_non (nomark _)) (vw_and1 (vt_cmp (op_neD hr.units) s_ne (vv 3) (ve_callB call_lenA c_len (by rfl) T.z_len (by decide +kernel) (va_cons (vv 4) va_nil)) (nomark _))))) (vss_one (vs_ret (ve_tup (va_cons ve_str va_nil)))) vss_nil)
    (vss_cons (vs_for hp rfl (vi_range1 (by rfl) T.z_range (va_cons (ve_callB call_lenA c_len (by rfl) T.z_len (by decide +kernel) (va_cons (vv 4) va_nil)) va_nil)) (vg_name sc_flaw.nd rfl (Or.inl rfl)) (vss_one (vs_if (vt_cmp (op_inA (hu65 hr)) s_in (ve_ix ix_seq s_ix (vv 0) ve_int (fun _ _ => rfl)) (ve_ix ix_seq s_ix (vv 4) (vv 5) (fun _ _ => rfl)) (by rfl)) (vss_one (vs_ret (ve_tup (va_cons ve_str (va_cons (vv 5) va_nil))))) vss_nil)))
    (vss_cons (vs_set (i := 6) sc_flaw.nd rfl (Or.inl rfl) (ve_ifExp (vt_cmp op_isN s_is (vv 3) ve_non (nomark _)) (ve_callB call_lenA c_len (by rfl) T.z_len (by decide +kernel) (va_cons (vv 4) va_nil)) (ve_op op_sub s_sub (ve_callB call_lenA c_len (by rfl) T.z_len (by decide +kernel) (va_cons (vv 4) va_nil)) ve_int)))
    (vss_cons (vs_for hp rfl (vi_range1 (by rfl) T.z_range (va_cons (vv 6) va_nil)) (vg_name sc_flaw.nd rfl (Or.inl rfl)) (vss_one (vs_for hp rfl (vi_any (ve_ix ix_seq s_ix (vv 4) (vv 5) (fun _ _ => rfl))) (vg_name sc_flaw.nd rfl (Or.inl rfl)) (vss_one (vs_for hp rfl (vi_any (ve_call G_transitions (hr.mono (by decide)) (by rfl) T.g_transitions T.k_transitions b_transitions tk (va_cons (vv 0) (va_cons (vv 7) (va_cons (vv 2) va_nil))))) (vg_tup rfl (vgs_cons sc_flaw.nd rfl (Or.inl rfl) (vgs_cons sc_flaw.nd rfl (Or.inl rfl) vgs_nil))) (vss_one (vs_if (vt_not (vt_val (ve_call G_stands_in (hr.mono (by decide)) (by rfl) T.g_stands_in T.k_stands_in b_stands_in tk (va_cons (ve_sl (vv 4) vo_none (vo_some (ve_op op_addA s_add (vv 5) ve_int))) (va_cons (vv 9) va_nil))))) (vss_one (vs_ret (ve_tup (va_cons ve_str (va_cons (vv 5) (va_cons (vv 7) (va_cons (vv 8) va_nil))))))) vss_nil)))))))
    (vss_one (vs_ret ve_non)))))))))
abbrev s_is_right : Stmt := topS 11
abbrev n_is_right : List Str := ["task", "certificate"]
theorem sc_is_right : FnScope n_is_right ["task", "certificate"] (defScope s_is_right) := ⟨rfl, rfl, rfl, by decide +kernel, rfl, by decide +kernel, by decide +kernel⟩
theorem ok_is_right (T : Txt K mg a__law_cell a__law_draw a__law_task a__law_can a__law_moved a__law_ways a__law_paper a_is_possible a_moved a_transitions a_shortest_plan a_levels_of a_certificate a_stands_in a_flaw a_is_right a_law) {fd_flaw : FuncData} (G_flaw : FnOk P w K mg base (L2.CX P w) 3 a_flaw fd_flaw ["task", "certificate"] (spV K ca 2 F_flaw)) (b_flaw : Binds K fd_flaw ["task", "certificate"] []) {fd : FuncData} (F : Fun K "is_right" "is_right" s_is_right a_is_right fd) : FnOk P w K mg base (L2.CX P w) 4 a_is_right fd ["task", "certificate"] (spV K ca 2 F_is_right) :=
  fn_ok (k := 3) (N := n_is_right) (body := B_is_right) F sc_is_right (fun cdv A outer s H E hr tk hp =>
    (vss_one (vs_ret (ve_cmp op_isN s_is (ve_call G_flaw (hr.mono (by decide)) (by rfl) T.g_flaw T.k_flaw b_flaw tk (va_cons (vv 0) (va_cons (vv 1) va_nil))) ve_non (nomark _)))))
abbrev s_law : Stmt := topS 20
abbrev n_law : List Str := ["_law_script", "_law_w", "_law_given", "_law_registers", "_law_paper_here", "_law_ways_here", "_law_made", "_law_plan"]
theorem sc_law : FnScope n_law ["_law_script"] (defScope s_law) := ⟨rfl, rfl, rfl, by decide +kernel, rfl, by decide +kernel, by decide +kernel⟩
theorem ok_law (T : Txt K mg a__law_cell a__law_draw a__law_task a__law_can a__law_moved a__law_ways a__law_paper a_is_possible a_moved a_transitions a_shortest_plan a_levels_of a_certificate a_stands_in a_flaw a_is_right a_law) {fd__law_task : FuncData} (G__law_task : FnOk P w K mg base (L2.CX P w) 3 a__law_task fd__law_task ["_law_script", "_law_at", "_law_most"] (spV K ca 3 F__law_task)) (b__law_task : Binds K fd__law_task ["_law_script", "_law_at", "_law_most"] []) {fd__law_draw : FuncData} (G__law_draw : FnOk P w K mg base (L2.CX P w) 2 a__law_draw fd__law_draw ["_law_script", "_law_k", "_law_sizes"] (spV K ca 3 F__law_draw)) (b__law_draw : Binds K fd__law_draw ["_law_script", "_law_k", "_law_sizes"] []) {fd__law_paper : FuncData} (G__law_paper : FnOk P w K mg base (L2.CX P w) 3 a__law_paper fd__law_paper ["_law_script", "_law_at", "_law_task_here", "_law_registers"] (spV K ca 4 F__law_paper)) (b__law_paper : Binds K fd__law_paper ["_law_script", "_law_at", "_law_task_here", "_law_registers"] []) {fd__law_ways : FuncData} (G__law_ways : FnOk P w K mg base (L2.CX P w) 2 a__law_ways fd__law_ways ["_law_uses", "_law_registers", "_law_start"] (spV K ca 3 F__law_ways)) (b__law_ways : Binds K fd__law_ways ["_law_uses", "_law_registers", "_law_start"] []) {fd_is_right : FuncData} (G_is_right : FnOk P w K mg base (L2.CX P w) 4 a_is_right fd_is_right ["task", "certificate"] (spV K ca 2 F_is_right)) (b_is_right : Binds K fd_is_right ["task", "certificate"] []) {fd_certificate : FuncData} (G_certificate : FnOk P w K mg base (L2.CX P w) 4 a_certificate fd_certificate ["task", "registers"] (spV K ca 2 F_certificate)) (b_certificate : Binds K fd_certificate ["task", "registers"] []) {fd_shortest_plan : FuncData} (G_shortest_plan : FnOk P w K mg base (L2.CX P w) 3 a_shortest_plan fd_shortest_plan ["task", "registers", "start", "goal"] (spV K ca 4 F_shortest_plan)) (b_shortest_plan_0 : DBn K fd_shortest_plan ["task", "registers", "start", "goal"] [.tuple [], .none]) {fd : FuncData} (F : Fun K "law" "law" s_law a_law fd) : FnOk P w K mg base (L2.CX P w) 5 a_law fd ["_law_script"] (spV K ca 1 F_law) :=
  fn_ok (k := 4) (N := n_law) (body := B_law) F sc_law (fun cdv A outer s H E hr tk hp =>
    (vss_cons (vs_for hp rfl (vi_range1 (by rfl) T.z_range (va_cons (ve_callB (call_min2 rfl) c_min2 (by rfl) T.z_min (by decide +kernel) (va_cons ve_int (va_cons (ve_op op_addA s_add ve_int (ve_op op_fdiv s_div (ve_callB call_lenA c_len (by rfl) T.z_len (by decide +kernel) (va_cons (vv 0) va_nil)) ve_int)) va_nil))) va_nil)) (vg_name sc_law.nd rfl (Or.inl rfl)) (vss_cons (vs_set (i := 2) sc_law.nd rfl (Or.inl rfl) (ve_call G__law_task (hr.mono (by decide)) (by rfl) T.g__law_task T.k__law_task b__law_task tk (va_cons (vv 0) (va_cons (ve_op op_mul s_mul ve_int (vv 1)) (va_cons ve_int va_nil)))))
    (vss_cons (vs_set (i := 3) sc_law.nd rfl (Or.inl rfl) (ve_op op_addA s_add ve_int (ve_ix ix_seq s_ix (ve_call G__law_draw (hr.mono (by decide)) (by rfl) T.g__law_draw T.k__law_draw b__law_draw tk (va_cons (vv 0) (va_cons (ve_op op_addA s_add (ve_op op_mul s_mul ve_int (vv 1)) ve_int) (va_cons (ve_lst (va_cons ve_int va_nil)) va_nil)))) ve_int (fun _ _ => rfl))))
    (vss_cons (vs_fz 3 (vs_fz 2 (vs_set (i := 4) sc_law.nd rfl (Or.inl rfl) (ve_call G__law_paper (hr.mono (by decide)) (by rfl) T.g__law_paper T.k__law_paper b__law_paper tk (va_cons (vv 0) (va_cons (ve_op op_addA s_add (ve_op op_mul s_mul ve_int (vv 1)) ve_int) (va_cons (vv 2) (va_cons (vv 3) va_nil))))))))
    (vss_cons (vs_set (i := 5) sc_law.nd rfl (Or.inl rfl) (ve_call G__law_ways (hr.mono (by decide)) (by rfl) T.g__law_ways T.k__law_ways b__law_ways tk (va_cons (ve_ix ix_seq s_ix (vv 2) ve_int (fun _ _ => rfl)) (va_cons (ve_ix ix_seq s_ix (vv 4) ve_int (fun _ _ => rfl)) (va_cons (ve_tup va_nil) va_nil)))))
    (vss_cons (vs_fz 4 (vs_fz 2 (vs_if (vw (vw_and (vt_val (ve_call G_is_right (hr.mono (by decide)) (by rfl) T.g_is_right T.k_is_right b_is_right tk (va_cons (vv 2) (va_cons (vv 4) va_nil)))) (vw_and1 (vt_cmp (op_inD2 (hu1 hr)) s_inD (ve_ix ix_seq s_ix (vv 2) ve_int (fun _ _ => rfl)) (vv 5) (by rfl))))) (vss_one (vs_if (vw (vw_or (vt_cmp op_isN s_is (ve_ix ix_seq s_ix (vv 4) ve_int (fun _ _ => rfl)) ve_non (nomark _)) (vw_or1 (vt_cmp op_lt s_lt (ve_ix (ix_d (hu1 hr)) s_ixD (vv 5) (ve_ix ix_seq s_ix (vv 2) ve_int (fun _ _ => rfl)) (fun _ _ => rfl)) (ve_ix ix_seq s_ix (vv 4) ve_int (fun _ _ => rfl)) (nomark _))))) (vss_one (vs_ret ve_bl)) vss_nil)) vss_nil)))
    (vss_cons (vs_fz 3 (vs_fz 2 (vs_set (i := 6) sc_law.nd rfl (Or.inl rfl) (ve_call G_certificate (hr.mono (by decide)) (by rfl) T.g_certificate T.k_certificate b_certificate tk (va_cons (vv 2) (va_cons (vv 3) va_nil))))))
    (vss_cons (vs_fz 3 (vs_fz 2 (vs_set (i := 7) sc_law.nd rfl (Or.inl rfl) (ve_callD G_shortest_plan (hr.mono (by decide)) (by rfl) T.g_shortest_plan T.k_shortest_plan b_shortest_plan_0 tk (va_cons (vv 2) (va_cons (vv 3) va_nil))))))
    (vss_cons (vs_fz 6 (vs_fz 2 (vs_if (vw (vw_or (vt_not (vt_val (ve_call G_is_right (hr.mono (by decide)) (by rfl) T.g_is_right T.k_is_right b_is_right tk (va_cons (vv 2) (va_cons (vv 6) va_nil))))) (vw_or1 (vt_cmp (op_neD hr.units) s_ne (ve_ix ix_seq s_ix (vv 6) ve_int (fun _ _ => rfl)) (vv 3) (nomark _))))) (vss_one (vs_ret ve_bl)) vss_nil)))
    (vss_one (vs_if (vw (vw_or (vt_cmp (op_neD hr.units) s_ne (ve_cmp op_isN s_is (vv 7) ve_non (nomark _)) (ve_cmp op_isN s_is (ve_ix ix_seq s_ix (vv 6) ve_int (fun _ _ => rfl)) ve_non (nomark _)) (nomark _)) (vw_or1 (vw (vw_and (vt_cmp op_notN s_isNot (vv 7) ve_non (nomark _)) (vw_and1 (vt_cmp (op_neD hr.units) s_ne (ve_ix ix_seq s_ix (vv 6) ve_int (fun _ _ => rfl)) (ve_callB call_lenA c_len (by rfl) T.z_len (by decide +kernel) (va_cons (vv 7) va_nil)) (nomark _)))))))) (vss_one (vs_ret ve_bl)) vss_nil)))))))))))
    (vss_one (vs_ret ve_bl))))
end
theorem all_mk {l : PySem.W.OpenLaw} {w : World} {K : PySem.W.Frag} {h : Heap} {mg : Str → Option Value} {fa a__law_cell a__law_draw a__law_task a__law_can a__law_moved a__law_ways a__law_paper a_is_possible a_moved a_transitions a_shortest_plan a_levels_of a_certificate a_stands_in a_flaw a_is_right a_law : Addr} (X : K.In h) (G : h.Ns mainGlobals mg) (hfa : mg "law" = some (.ref fa))
    {od__law_cell an__law_cell od__law_draw an__law_draw od__law_task an__law_task od__law_can an__law_can od__law_moved an__law_moved od__law_ways an__law_ways od__law_paper an__law_paper od_is_possible an_is_possible od_moved an_moved od_transitions an_transitions od_shortest_plan an_shortest_plan od_levels_of an_levels_of od_certificate an_certificate od_stands_in an_stands_in od_flaw an_flaw od_is_right an_is_right od_law an_law : Option Addr} {sl__law_cell sl__law_draw sl__law_task sl__law_can sl__law_moved sl__law_ways sl__law_paper sl_is_possible sl_moved sl_transitions sl_shortest_plan sl_levels_of sl_certificate sl_stands_in sl_flaw sl_is_right sl_law : Array (Option Value)} {oc__law_cell kV__law_cell dc__law_cell pm__law_cell cd__law_cell ct__law_cell oc__law_draw kV__law_draw dc__law_draw pm__law_draw cd__law_draw ct__law_draw oc__law_task kV__law_task dc__law_task pm__law_task cd__law_task ct__law_task oc__law_can kV__law_can dc__law_can pm__law_can cd__law_can ct__law_can oc__law_moved kV__law_moved dc__law_moved pm__law_moved cd__law_moved ct__law_moved oc__law_ways kV__law_ways dc__law_ways pm__law_ways cd__law_ways ct__law_ways oc__law_paper kV__law_paper dc__law_paper pm__law_paper cd__law_paper ct__law_paper oc_is_possible kV_is_possible dc_is_possible pm_is_possible cd_is_possible ct_is_possible oc_moved kV_moved dc_moved pm_moved cd_moved ct_moved oc_transitions kV_transitions dc_transitions pm_transitions cd_transitions ct_transitions oc_shortest_plan dc_shortest_plan pm_shortest_plan cd_shortest_plan ct_shortest_plan oc_levels_of kV_levels_of dc_levels_of pm_levels_of cd_levels_of ct_levels_of oc_certificate kV_certificate dc_certificate pm_certificate cd_certificate ct_certificate oc_stands_in kV_stands_in dc_stands_in pm_stands_in cd_stands_in ct_stands_in oc_flaw kV_flaw dc_flaw pm_flaw cd_flaw ct_flaw oc_is_right kV_is_right dc_is_right pm_is_right cd_is_right ct_is_right oc_law kV_law dc_law pm_law cd_law ct_law : Value}
    (p__law_cell : PySem.W.nsIn K mainGlobals "_law_cell" = some (some (.ref a__law_cell))) (l__law_cell : K.lookup a__law_cell = some ⟨oc__law_cell, od__law_cell, .func (PySem.W.fnOf "_law_cell" "_law_cell" (defArgs s__law_cell) (defBody s__law_cell) (defScope s__law_cell) .none kV__law_cell dc__law_cell pm__law_cell an__law_cell cd__law_cell ct__law_cell), sl__law_cell⟩) (c__law_cell : PySem.W.codeIn K cd__law_cell "_law_cell" = true) (k__law_cell : PySem.W.keepIn K (.ref a__law_cell) = true)
    (p__law_draw : PySem.W.nsIn K mainGlobals "_law_draw" = some (some (.ref a__law_draw))) (l__law_draw : K.lookup a__law_draw = some ⟨oc__law_draw, od__law_draw, .func (PySem.W.fnOf "_law_draw" "_law_draw" (defArgs s__law_draw) (defBody s__law_draw) (defScope s__law_draw) .none kV__law_draw dc__law_draw pm__law_draw an__law_draw cd__law_draw ct__law_draw), sl__law_draw⟩) (c__law_draw : PySem.W.codeIn K cd__law_draw "_law_draw" = true) (k__law_draw : PySem.W.keepIn K (.ref a__law_draw) = true)
    (p__law_task : PySem.W.nsIn K mainGlobals "_law_task" = some (some (.ref a__law_task))) (l__law_task : K.lookup a__law_task = some ⟨oc__law_task, od__law_task, .func (PySem.W.fnOf "_law_task" "_law_task" (defArgs s__law_task) (defBody s__law_task) (defScope s__law_task) .none kV__law_task dc__law_task pm__law_task an__law_task cd__law_task ct__law_task), sl__law_task⟩) (c__law_task : PySem.W.codeIn K cd__law_task "_law_task" = true) (k__law_task : PySem.W.keepIn K (.ref a__law_task) = true)
    (p__law_can : PySem.W.nsIn K mainGlobals "_law_can" = some (some (.ref a__law_can))) (l__law_can : K.lookup a__law_can = some ⟨oc__law_can, od__law_can, .func (PySem.W.fnOf "_law_can" "_law_can" (defArgs s__law_can) (defBody s__law_can) (defScope s__law_can) .none kV__law_can dc__law_can pm__law_can an__law_can cd__law_can ct__law_can), sl__law_can⟩) (c__law_can : PySem.W.codeIn K cd__law_can "_law_can" = true) (k__law_can : PySem.W.keepIn K (.ref a__law_can) = true)
    (p__law_moved : PySem.W.nsIn K mainGlobals "_law_moved" = some (some (.ref a__law_moved))) (l__law_moved : K.lookup a__law_moved = some ⟨oc__law_moved, od__law_moved, .func (PySem.W.fnOf "_law_moved" "_law_moved" (defArgs s__law_moved) (defBody s__law_moved) (defScope s__law_moved) .none kV__law_moved dc__law_moved pm__law_moved an__law_moved cd__law_moved ct__law_moved), sl__law_moved⟩) (c__law_moved : PySem.W.codeIn K cd__law_moved "_law_moved" = true) (k__law_moved : PySem.W.keepIn K (.ref a__law_moved) = true)
    (p__law_ways : PySem.W.nsIn K mainGlobals "_law_ways" = some (some (.ref a__law_ways))) (l__law_ways : K.lookup a__law_ways = some ⟨oc__law_ways, od__law_ways, .func (PySem.W.fnOf "_law_ways" "_law_ways" (defArgs s__law_ways) (defBody s__law_ways) (defScope s__law_ways) .none kV__law_ways dc__law_ways pm__law_ways an__law_ways cd__law_ways ct__law_ways), sl__law_ways⟩) (c__law_ways : PySem.W.codeIn K cd__law_ways "_law_ways" = true) (k__law_ways : PySem.W.keepIn K (.ref a__law_ways) = true)
    (p__law_paper : PySem.W.nsIn K mainGlobals "_law_paper" = some (some (.ref a__law_paper))) (l__law_paper : K.lookup a__law_paper = some ⟨oc__law_paper, od__law_paper, .func (PySem.W.fnOf "_law_paper" "_law_paper" (defArgs s__law_paper) (defBody s__law_paper) (defScope s__law_paper) .none kV__law_paper dc__law_paper pm__law_paper an__law_paper cd__law_paper ct__law_paper), sl__law_paper⟩) (c__law_paper : PySem.W.codeIn K cd__law_paper "_law_paper" = true) (k__law_paper : PySem.W.keepIn K (.ref a__law_paper) = true)
    (p_is_possible : PySem.W.nsIn K mainGlobals "is_possible" = some (some (.ref a_is_possible))) (l_is_possible : K.lookup a_is_possible = some ⟨oc_is_possible, od_is_possible, .func (PySem.W.fnOf "is_possible" "is_possible" (defArgs s_is_possible) (defBody s_is_possible) (defScope s_is_possible) .none kV_is_possible dc_is_possible pm_is_possible an_is_possible cd_is_possible ct_is_possible), sl_is_possible⟩) (c_is_possible : PySem.W.codeIn K cd_is_possible "is_possible" = true) (k_is_possible : PySem.W.keepIn K (.ref a_is_possible) = true)
    (p_moved : PySem.W.nsIn K mainGlobals "moved" = some (some (.ref a_moved))) (l_moved : K.lookup a_moved = some ⟨oc_moved, od_moved, .func (PySem.W.fnOf "moved" "moved" (defArgs s_moved) (defBody s_moved) (defScope s_moved) .none kV_moved dc_moved pm_moved an_moved cd_moved ct_moved), sl_moved⟩) (c_moved : PySem.W.codeIn K cd_moved "moved" = true) (k_moved : PySem.W.keepIn K (.ref a_moved) = true)
    (p_transitions : PySem.W.nsIn K mainGlobals "transitions" = some (some (.ref a_transitions))) (l_transitions : K.lookup a_transitions = some ⟨oc_transitions, od_transitions, .func (PySem.W.fnOf "transitions" "transitions" (defArgs s_transitions) (defBody s_transitions) (defScope s_transitions) .none kV_transitions dc_transitions pm_transitions an_transitions cd_transitions ct_transitions), sl_transitions⟩) (c_transitions : PySem.W.codeIn K cd_transitions "transitions" = true) (k_transitions : PySem.W.keepIn K (.ref a_transitions) = true)
    {D_shortest_plan : Addr}
    (p_shortest_plan : PySem.W.nsIn K mainGlobals "shortest_plan" = some (some (.ref a_shortest_plan))) (l_shortest_plan : K.lookup a_shortest_plan = some ⟨oc_shortest_plan, od_shortest_plan, .func (PySem.W.fnOf "shortest_plan" "shortest_plan" (defArgs s_shortest_plan) (defBody s_shortest_plan) (defScope s_shortest_plan) .none (.ref D_shortest_plan) dc_shortest_plan pm_shortest_plan an_shortest_plan cd_shortest_plan ct_shortest_plan), sl_shortest_plan⟩) (c_shortest_plan : PySem.W.codeIn K cd_shortest_plan "shortest_plan" = true) (k_shortest_plan : PySem.W.keepIn K (.ref a_shortest_plan) = true)
    {T_shortest_plan_start : Addr} {odT_shortest_plan_start : Option Addr} {nT_shortest_plan_start : Nat} {slT_shortest_plan_start : Array (Option Value)} (d_shortest_plan_start : PySem.W.nsIn K D_shortest_plan "start" = some (some (.ref T_shortest_plan_start))) (e_shortest_plan_start : K.lookup T_shortest_plan_start = some ⟨.type "tuple", odT_shortest_plan_start, .seq #[] nT_shortest_plan_start, slT_shortest_plan_start⟩)
    (d_shortest_plan_goal : PySem.W.nsIn K D_shortest_plan "goal" = some (some (.none)))
    (p_levels_of : PySem.W.nsIn K mainGlobals "levels_of" = some (some (.ref a_levels_of))) (l_levels_of : K.lookup a_levels_of = some ⟨oc_levels_of, od_levels_of, .func (PySem.W.fnOf "levels_of" "levels_of" (defArgs s_levels_of) (defBody s_levels_of) (defScope s_levels_of) .none kV_levels_of dc_levels_of pm_levels_of an_levels_of cd_levels_of ct_levels_of), sl_levels_of⟩) (c_levels_of : PySem.W.codeIn K cd_levels_of "levels_of" = true) (k_levels_of : PySem.W.keepIn K (.ref a_levels_of) = true)
    (p_certificate : PySem.W.nsIn K mainGlobals "certificate" = some (some (.ref a_certificate))) (l_certificate : K.lookup a_certificate = some ⟨oc_certificate, od_certificate, .func (PySem.W.fnOf "certificate" "certificate" (defArgs s_certificate) (defBody s_certificate) (defScope s_certificate) .none kV_certificate dc_certificate pm_certificate an_certificate cd_certificate ct_certificate), sl_certificate⟩) (c_certificate : PySem.W.codeIn K cd_certificate "certificate" = true) (k_certificate : PySem.W.keepIn K (.ref a_certificate) = true)
    (p_stands_in : PySem.W.nsIn K mainGlobals "stands_in" = some (some (.ref a_stands_in))) (l_stands_in : K.lookup a_stands_in = some ⟨oc_stands_in, od_stands_in, .func (PySem.W.fnOf "stands_in" "stands_in" (defArgs s_stands_in) (defBody s_stands_in) (defScope s_stands_in) .none kV_stands_in dc_stands_in pm_stands_in an_stands_in cd_stands_in ct_stands_in), sl_stands_in⟩) (c_stands_in : PySem.W.codeIn K cd_stands_in "stands_in" = true) (k_stands_in : PySem.W.keepIn K (.ref a_stands_in) = true)
    (p_flaw : PySem.W.nsIn K mainGlobals "flaw" = some (some (.ref a_flaw))) (l_flaw : K.lookup a_flaw = some ⟨oc_flaw, od_flaw, .func (PySem.W.fnOf "flaw" "flaw" (defArgs s_flaw) (defBody s_flaw) (defScope s_flaw) .none kV_flaw dc_flaw pm_flaw an_flaw cd_flaw ct_flaw), sl_flaw⟩) (c_flaw : PySem.W.codeIn K cd_flaw "flaw" = true) (k_flaw : PySem.W.keepIn K (.ref a_flaw) = true)
    (p_is_right : PySem.W.nsIn K mainGlobals "is_right" = some (some (.ref a_is_right))) (l_is_right : K.lookup a_is_right = some ⟨oc_is_right, od_is_right, .func (PySem.W.fnOf "is_right" "is_right" (defArgs s_is_right) (defBody s_is_right) (defScope s_is_right) .none kV_is_right dc_is_right pm_is_right an_is_right cd_is_right ct_is_right), sl_is_right⟩) (c_is_right : PySem.W.codeIn K cd_is_right "is_right" = true) (k_is_right : PySem.W.keepIn K (.ref a_is_right) = true)
    (p_law : PySem.W.nsIn K mainGlobals "law" = some (some (.ref a_law))) (l_law : K.lookup a_law = some ⟨oc_law, od_law, .func (PySem.W.fnOf "law" "law" (defArgs s_law) (defBody s_law) (defScope s_law) .none kV_law dc_law pm_law an_law cd_law ct_law), sl_law⟩) (c_law : PySem.W.codeIn K cd_law "law" = true) (k_law : PySem.W.keepIn K (.ref a_law) = true)
    (z_all : PySem.W.nsIn K mainGlobals "all" = some none)
    (z_len : PySem.W.nsIn K mainGlobals "len" = some none)
    (z_list : PySem.W.nsIn K mainGlobals "list" = some none)
    (z_max : PySem.W.nsIn K mainGlobals "max" = some none)
    (z_min : PySem.W.nsIn K mainGlobals "min" = some none)
    (z_range : PySem.W.nsIn K mainGlobals "range" = some none)
    (z_sorted : PySem.W.nsIn K mainGlobals "sorted" = some none)
    (z_tuple : PySem.W.nsIn K mainGlobals "tuple" = some none) :
    ∃ fd : FuncData, (∀ (s : Shared) (v : Value), BindsTo s fd ⟨[v], []⟩ [("_law_script", v)]) ∧ ∀ base : Heap, K.In base → base.Ns mainGlobals mg → FnOk l.prog w K mg base (L2.CX l.prog w) 5 fa fd ["_law_script"] (spTrue K) := by
  have e := hfa.symm.trans (PySem.W.mg_of X G p_law)
  cases e
  have T : Txt K mg a__law_cell a__law_draw a__law_task a__law_can a__law_moved a__law_ways a__law_paper a_is_possible a_moved a_transitions a_shortest_plan a_levels_of a_certificate a_stands_in a_flaw a_is_right fa := ⟨PySem.W.mg_of X G p__law_cell, k__law_cell, PySem.W.mg_of X G p__law_draw, k__law_draw, PySem.W.mg_of X G p__law_task, k__law_task, PySem.W.mg_of X G p__law_can, k__law_can, PySem.W.mg_of X G p__law_moved, k__law_moved, PySem.W.mg_of X G p__law_ways, k__law_ways, PySem.W.mg_of X G p__law_paper, k__law_paper, PySem.W.mg_of X G p_is_possible, k_is_possible, PySem.W.mg_of X G p_moved, k_moved, PySem.W.mg_of X G p_transitions, k_transitions, PySem.W.mg_of X G p_shortest_plan, k_shortest_plan, PySem.W.mg_of X G p_levels_of, k_levels_of, PySem.W.mg_of X G p_certificate, k_certificate, PySem.W.mg_of X G p_stands_in, k_stands_in, PySem.W.mg_of X G p_flaw, k_flaw, PySem.W.mg_of X G p_is_right, k_is_right, PySem.W.mg_of X G p_law, k_law, PySem.W.mg_none_of X G z_all, PySem.W.mg_none_of X G z_len, PySem.W.mg_none_of X G z_list, PySem.W.mg_none_of X G z_max, PySem.W.mg_none_of X G z_min, PySem.W.mg_none_of X G z_range, PySem.W.mg_none_of X G z_sorted, PySem.W.mg_none_of X G z_tuple⟩
  have f__law_cell := fun_mk (st := s__law_cell) l__law_cell c__law_cell k__law_cell
  have b__law_cell := f__law_cell.binds (ps := ["_law_script", "_law_k"]) fun _ _ _ _ _ _ us hl => match us, hl with | [_, _], _ => rfl
  have f__law_draw := fun_mk (st := s__law_draw) l__law_draw c__law_draw k__law_draw
  have b__law_draw := f__law_draw.binds (ps := ["_law_script", "_law_k", "_law_sizes"]) fun _ _ _ _ _ _ us hl => match us, hl with | [_, _, _], _ => rfl
  have f__law_task := fun_mk (st := s__law_task) l__law_task c__law_task k__law_task
  have b__law_task := f__law_task.binds (ps := ["_law_script", "_law_at", "_law_most"]) fun _ _ _ _ _ _ us hl => match us, hl with | [_, _, _], _ => rfl
  have f__law_can := fun_mk (st := s__law_can) l__law_can c__law_can k__law_can
  have b__law_can := f__law_can.binds (ps := ["_law_uses", "_law_held", "_law_step"]) fun _ _ _ _ _ _ us hl => match us, hl with | [_, _, _], _ => rfl
  have f__law_moved := fun_mk (st := s__law_moved) l__law_moved c__law_moved k__law_moved
  have b__law_moved := f__law_moved.binds (ps := ["_law_held", "_law_step"]) fun _ _ _ _ _ _ us hl => match us, hl with | [_, _], _ => rfl
  have f__law_ways := fun_mk (st := s__law_ways) l__law_ways c__law_ways k__law_ways
  have b__law_ways := f__law_ways.binds (ps := ["_law_uses", "_law_registers", "_law_start"]) fun _ _ _ _ _ _ us hl => match us, hl with | [_, _, _], _ => rfl
  have f__law_paper := fun_mk (st := s__law_paper) l__law_paper c__law_paper k__law_paper
  have b__law_paper := f__law_paper.binds (ps := ["_law_script", "_law_at", "_law_task_here", "_law_registers"]) fun _ _ _ _ _ _ us hl => match us, hl with | [_, _, _, _], _ => rfl
  have f_is_possible := fun_mk (st := s_is_possible) l_is_possible c_is_possible k_is_possible
  have b_is_possible := f_is_possible.binds (ps := ["task", "configuration", "move"]) fun _ _ _ _ _ _ us hl => match us, hl with | [_, _, _], _ => rfl
  have f_moved := fun_mk (st := s_moved) l_moved c_moved k_moved
  have b_moved := f_moved.binds (ps := ["configuration", "move"]) fun _ _ _ _ _ _ us hl => match us, hl with | [_, _], _ => rfl
  have f_transitions := fun_mk (st := s_transitions) l_transitions c_transitions k_transitions
  have b_transitions := f_transitions.binds (ps := ["task", "configuration", "registers"]) fun _ _ _ _ _ _ us hl => match us, hl with | [_, _, _], _ => rfl
  have f_shortest_plan : FunD K "shortest_plan" "shortest_plan" (defArgs s_shortest_plan) (defBody s_shortest_plan) (defScope s_shortest_plan) [] ([("start", .ref T_shortest_plan_start), ("goal", .non)] : List (Str × V)) a_shortest_plan _ := fund_mk l_shortest_plan c_shortest_plan k_shortest_plan (kd_cons d_shortest_plan_start rfl (kd_cons d_shortest_plan_goal rfl kd_nil))
  have b_shortest_plan_0 : DBn K _ ["task", "registers", "start", "goal"] [.tuple [], .none] := ⟨_, f_shortest_plan.binds0 2 (by simp) rfl (fun _ _ _ _ _ _ us ks h1 h2 => match us, ks, h1, h2 with | [_, _], [_, _], _, _ => ⟨_, _, _, _, _, _, rfl, rfl, ⟨_, _, _, _, _, _, rfl, rfl, rfl⟩⟩), (still_cons (still_tup0 e_shortest_plan_start) (still_cons (fun _ => .non) still_nil))⟩
  have f_levels_of := fun_mk (st := s_levels_of) l_levels_of c_levels_of k_levels_of
  have b_levels_of := f_levels_of.binds (ps := ["task", "registers"]) fun _ _ _ _ _ _ us hl => match us, hl with | [_, _], _ => rfl
  have f_certificate := fun_mk (st := s_certificate) l_certificate c_certificate k_certificate
  have b_certificate := f_certificate.binds (ps := ["task", "registers"]) fun _ _ _ _ _ _ us hl => match us, hl with | [_, _], _ => rfl
  have f_stands_in := fun_mk (st := s_stands_in) l_stands_in c_stands_in k_stands_in
  have b_stands_in := f_stands_in.binds (ps := ["levels", "configuration"]) fun _ _ _ _ _ _ us hl => match us, hl with | [_, _], _ => rfl
  have f_flaw := fun_mk (st := s_flaw) l_flaw c_flaw k_flaw
  have b_flaw := f_flaw.binds (ps := ["task", "certificate"]) fun _ _ _ _ _ _ us hl => match us, hl with | [_, _], _ => rfl
  have f_is_right := fun_mk (st := s_is_right) l_is_right c_is_right k_is_right
  have b_is_right := f_is_right.binds (ps := ["task", "certificate"]) fun _ _ _ _ _ _ us hl => match us, hl with | [_, _], _ => rfl
  have f_law := fun_mk (st := s_law) l_law c_law k_law
  refine ⟨PySem.W.fnOf "law" "law" (defArgs s_law) (defBody s_law) (defScope s_law) .none kV_law dc_law pm_law an_law cd_law ct_law, fun s v => .of_eq rfl, fun base _ _ => ?_⟩
  have G__law_cell := ok__law_cell (P := l.prog) (w := w) (base := base) (ca := (fun _ => 0)) T  f__law_cell
  have G__law_draw := ok__law_draw (P := l.prog) (w := w) (base := base) (ca := (fun _ => 0)) T G__law_cell b__law_cell f__law_draw
  have G__law_task := ok__law_task (P := l.prog) (w := w) (base := base) (ca := (fun _ => 0)) T G__law_draw b__law_draw f__law_task
  have G__law_can := ok__law_can (P := l.prog) (w := w) (base := base) (ca := (fun _ => 0)) T  f__law_can
  have G__law_moved := ok__law_moved (P := l.prog) (w := w) (base := base) (ca := (fun _ => 0)) T  f__law_moved
  have G__law_ways := ok__law_ways (P := l.prog) (w := w) (base := base) (ca := (fun _ => 0)) T G__law_can b__law_can G__law_moved b__law_moved f__law_ways
  have G__law_paper := ok__law_paper (P := l.prog) (w := w) (base := base) (ca := (fun _ => 0)) T G__law_ways b__law_ways G__law_draw b__law_draw f__law_paper
  have G_is_possible := ok_is_possible (P := l.prog) (w := w) (base := base) (ca := (fun _ => 0)) T  f_is_possible
  have G_moved := ok_moved (P := l.prog) (w := w) (base := base) (ca := (fun _ => 0)) T  f_moved
  have G_transitions := ok_transitions (P := l.prog) (w := w) (base := base) (ca := (fun _ => 0)) T G_is_possible b_is_possible G_moved b_moved f_transitions
  have G_shortest_plan := ok_shortest_plan (P := l.prog) (w := w) (base := base) (ca := (fun _ => 0)) T G_transitions b_transitions f_shortest_plan
  have G_levels_of := ok_levels_of (P := l.prog) (w := w) (base := base) (ca := (fun _ => 0)) T G_transitions b_transitions f_levels_of
  have G_certificate := ok_certificate (P := l.prog) (w := w) (base := base) (ca := (fun _ => 0)) T G_shortest_plan b_shortest_plan_0 G_levels_of b_levels_of f_certificate
  have G_stands_in := ok_stands_in (P := l.prog) (w := w) (base := base) (ca := (fun _ => 0)) T  f_stands_in
  have G_flaw := ok_flaw (P := l.prog) (w := w) (base := base) (ca := (fun _ => 0)) T G_transitions b_transitions G_stands_in b_stands_in f_flaw
  have G_is_right := ok_is_right (P := l.prog) (w := w) (base := base) (ca := (fun _ => 0)) T G_flaw b_flaw f_is_right
  have G_law := ok_law (P := l.prog) (w := w) (base := base) (ca := (fun _ => 0)) T G__law_task b__law_task G__law_draw b__law_draw G__law_paper b__law_paper G__law_ways b__law_ways G_is_right b_is_right G_certificate b_certificate G_shortest_plan b_shortest_plan_0 f_law
  exact G_law.imp fun vs H Q E h => law_true law_holds vs H Q E h
end My
open PySem PySem.W PyProof.Rows
set_option maxHeartbeats 0 in
theorem PySem.Challenge.cw_tidyback_k19_right_certificates_are_true_holds : PySem.Challenge.rw_tidyback_k19_right_certificates_are_true.Holds := by
  w_on; o_law; k_head; (case hw => w_witness2)
  k_fill
  refine L2.walk_of (l := PySem.Challenge.rw_tidyback_k19_right_certificates_are_true) (n := 63) (k := 5) (x := "_law_script") (CX := fun w => L2.CX PySem.Challenge.rw_tidyback_k19_right_certificates_are_true.prog w) (sp := fun w => VL.spTrue _) rfl (by decide) rfl ⟨rfl, by decide, by decide⟩ (fun w h Y => PySem.W.kIn_of Y) ?F (fun _ _ a ns hl _ hS => ⟨a, ns, rfl, hS, hl, fun _ => rfl⟩) (fun _ _ _ _ _ h => by
    obtain ⟨_, _, _, _, _, _, _, _, _, _, _, _, z⟩ := h
    exact z)
  case F =>
    intro w mg fa h KX G hmg
    refine' My.all_mk KX G hmg ?p__law_cell ?l__law_cell ?c__law_cell ?k__law_cell ?p__law_draw ?l__law_draw ?c__law_draw ?k__law_draw ?p__law_task ?l__law_task ?c__law_task ?k__law_task ?p__law_can ?l__law_can ?c__law_can ?k__law_can ?p__law_moved ?l__law_moved ?c__law_moved ?k__law_moved ?p__law_ways ?l__law_ways ?c__law_ways ?k__law_ways ?p__law_paper ?l__law_paper ?c__law_paper ?k__law_paper ?p_is_possible ?l_is_possible ?c_is_possible ?k_is_possible ?p_moved ?l_moved ?c_moved ?k_moved ?p_transitions ?l_transitions ?c_transitions ?k_transitions ?p_shortest_plan ?l_shortest_plan ?c_shortest_plan ?k_shortest_plan ?d_shortest_plan_start ?e_shortest_plan_start ?d_shortest_plan_goal ?p_levels_of ?l_levels_of ?c_levels_of ?k_levels_of ?p_certificate ?l_certificate ?c_certificate ?k_certificate ?p_stands_in ?l_stands_in ?c_stands_in ?k_stands_in ?p_flaw ?l_flaw ?c_flaw ?k_flaw ?p_is_right ?l_is_right ?c_is_right ?k_is_right ?p_law ?l_law ?c_law ?k_law ?z_all ?z_len ?z_list ?z_max ?z_min ?z_range ?z_sorted ?z_tuple
    (case p__law_cell => k_is); (case l__law_cell => k_is); (case c__law_cell => k_is); (case k__law_cell => k_is); (case p__law_draw => k_is); (case l__law_draw => k_is); (case c__law_draw => k_is); (case k__law_draw => k_is); (case p__law_task => k_is); (case l__law_task => k_is); (case c__law_task => k_is); (case k__law_task => k_is); (case p__law_can => k_is); (case l__law_can => k_is); (case c__law_can => k_is); (case k__law_can => k_is); (case p__law_moved => k_is); (case l__law_moved => k_is); (case c__law_moved => k_is); (case k__law_moved => k_is); (case p__law_ways => k_is); (case l__law_ways => k_is); (case c__law_ways => k_is); (case k__law_ways => k_is); (case p__law_paper => k_is); (case l__law_paper => k_is); (case c__law_paper => k_is); (case k__law_paper => k_is); (case p_is_possible => k_is); (case l_is_possible => k_is); (case c_is_possible => k_is); (case k_is_possible => k_is); (case p_moved => k_is); (case l_moved => k_is); (case c_moved => k_is); (case k_moved => k_is); (case p_transitions => k_is); (case l_transitions => k_is); (case c_transitions => k_is); (case k_transitions => k_is); (case p_shortest_plan => k_is); (case l_shortest_plan => k_is); (case c_shortest_plan => k_is); (case k_shortest_plan => k_is); (case d_shortest_plan_start => k_is); (case e_shortest_plan_start => k_is); (case d_shortest_plan_goal => k_is); (case p_levels_of => k_is); (case l_levels_of => k_is); (case c_levels_of => k_is); (case k_levels_of => k_is); (case p_certificate => k_is); (case l_certificate => k_is); (case c_certificate => k_is); (case k_certificate => k_is); (case p_stands_in => k_is); (case l_stands_in => k_is); (case c_stands_in => k_is); (case k_stands_in => k_is); (case p_flaw => k_is); (case l_flaw => k_is); (case c_flaw => k_is); (case k_flaw => k_is); (case p_is_right => k_is); (case l_is_right => k_is); (case c_is_right => k_is); (case k_is_right => k_is); (case p_law => k_is); (case l_law => k_is); (case c_law => k_is); (case k_law => k_is); (case z_all => k_is); (case z_len => k_is); (case z_list => k_is); (case z_max => k_is); (case z_min => k_is); (case z_range => k_is); (case z_sorted => k_is); (case z_tuple => k_is)
#print axioms PySem.Challenge.cw_tidyback_k19_right_certificates_are_true_holds
