import PyProof.Rows.All
import Wide.All
import OpenK.AllK
import Wide.FinOn
import HandS.ForMost
import HandS.Exc
import HandS.TryOnly
import HandS.ExcOwn
import HandS.WordsExc
import HandS.CallSlots
import HandS.Deep
import HandS.TupAny
import HandS.SortInts
import HandS.Style
import HandS.IsInst
import HandS.Iter
import HandS.Defaults
import HandS.MakeKwOnly
import HandS.Dict
import KE.KDictDisplayH
import HandS.DictSubView
import KE.KDictWalk
import PySem.Challenge.RW_tidyback_k11_the_first_of_the_shortest_p
set_option Elab.async false
set_option linter.all false
set_option maxRecDepth 100000
set_option maxHeartbeats 8000000
namespace VL
open PySem PySem.Spec PyProof.Rows L2

/-! ## data and results -/
inductive Rs (α : Type) where
  | ok (a : α)
  | ex (c : Nat) (fs : List (Str × PyData))
  | no
def Rs.bind {α β : Type} : Rs α → (α → Rs β) → Rs β
  | .ok a, f => f a
  | .ex c fs, _ => .ex c fs
  | .no, _ => .no
@[simp] theorem Rs.bind_ok {α β : Type} (a : α) (f : α → Rs β) : (Rs.ok a).bind f = f a := rfl
@[simp] theorem Rs.bind_ex {α β : Type} (c fs) (f : α → Rs β) : (Rs.ex c fs : Rs α).bind f = .ex c fs := rfl
@[simp] theorem Rs.bind_no {α β : Type} (f : α → Rs β) : (Rs.no : Rs α).bind f = .no := rfl

/-- what an expression comes to: plain data; a list, a dict of its own (o), or borrowed of a slot (b); the script -/
inductive RV where
  | d (x : PyData)
  | ol (xs : List PyData) | bl (xs : List PyData)
  | od (kvs : List (Key × PyData)) | bd (kvs : List (Key × PyData))
  | ot (kvs : List (List Int × PyData)) | bt (kvs : List (List Int × PyData))
  | sc (ns : List Int)
  /-- a caught exception: where it lies, its dict, its class, its fields -/
  | xo (a dd : Addr) (c : Nat) (fs : List (Str × PyData))
abbrev VEnv := List (Option RV)

mutual
inductive Dq (K : PySem.W.Frag) (F : Hp) : V → PyData → Prop
  | non : Dq K F .non .none
  | bl (b : Bool) : Dq K F (.bl b) (.bool b)
  | int (i : Int) : Dq K F (.int i) (.int i)
  | str (x : Str) : Dq K F (.str x) (.str x)
  | lst {a : Addr} {xs : List V} {ds : List PyData} : F a = some (.lst xs) → DqA K F xs ds → Dq K F (.ref a) (.list ds)
  | tup {a : Addr} {xs : List V} {ds : List PyData} : SqT K F a xs → DqA K F xs ds → Dq K F (.ref a) (.tuple ds)
inductive DqA (K : PySem.W.Frag) (F : Hp) : List V → List PyData → Prop
  | nil : DqA K F [] []
  | cons {v : V} {vs : List V} {d : PyData} {ds : List PyData} : Dq K F v d → DqA K F vs ds → DqA K F (v :: vs) (d :: ds)
end

theorem same_seqT {K : PySem.W.Frag} {H H' : Hp} {a : Addr} {xs : List V} (e : Same H H') (h : SqT K H a xs) : SqT K H' a xs := by
  rcases h with (h | ⟨o, h⟩) | h
  · exact .inl (.inl (e _ _ h))
  · exact .inl (.inr ⟨o, e _ _ h⟩)
  · exact .inr h

mutual
theorem Dq.mono {K : PySem.W.Frag} {F F' : Hp} (e : Same F F') : ∀ (d : PyData) (v : V), Dq K F v d → Dq K F' v d
  | .none, _, h => by cases h; exact .non
  | .bool b, _, h => by cases h; exact .bl b
  | .int i, _, h => by cases h; exact .int i
  | .str x, _, h => by cases h; exact .str x
  | .list ds, _, h => by
    cases h with
    | lst h1 h2 => exact .lst (e _ _ h1) (DqA.mono e ds _ h2)
  | .tuple ds, _, h => by
    cases h with
    | tup h1 h2 => exact .tup (same_seqT e h1) (DqA.mono e ds _ h2)
  | .dict _, _, h => by cases h
theorem DqA.mono {K : PySem.W.Frag} {F F' : Hp} (e : Same F F') : ∀ (ds : List PyData) (vs : List V), DqA K F vs ds → DqA K F' vs ds
  | [], _, h => by cases h; exact .nil
  | d :: ds, _, h => by
    cases h with
    | cons h1 h2 => exact .cons (Dq.mono e d _ h1) (DqA.mono e ds _ h2)
end
mutual
theorem Dq.dp {K : PySem.W.Frag} {F : Hp} : ∀ (d : PyData) (v : V), Dq K F v d → Dp K F v d
  | .none, _, h => by cases h; exact .non
  | .bool b, _, h => by cases h; exact .bl b
  | .int i, _, h => by cases h; exact .int i
  | .str x, _, h => by cases h; exact .str x
  | .list ds, _, h => by
    cases h with
    | lst h1 h2 => exact .lst (SqL.of h1) (DqA.dp ds _ h2)
  | .tuple ds, _, h => by
    cases h with
    | tup h1 h2 => exact .tup h1 (DqA.dp ds _ h2)
  | .dict _, _, h => by cases h
theorem DqA.dp {K : PySem.W.Frag} {F : Hp} : ∀ (ds : List PyData) (vs : List V), DqA K F vs ds → DpAll K F vs ds
  | [], _, h => by cases h; exact .nil
  | d :: ds, _, h => by
    cases h with
    | cons h1 h2 => exact .cons (Dq.dp d _ h1) (DqA.dp ds _ h2)
end
theorem DqA.length {K : PySem.W.Frag} {F : Hp} : ∀ {ds : List PyData} {vs : List V}, DqA K F vs ds → vs.length = ds.length
  | [], _, h => by cases h; rfl
  | d :: ds, _, h => by
    cases h with
    | cons h1 h2 => simp [DqA.length h2]
theorem DqA.get {K : PySem.W.Frag} {F : Hp} : ∀ {ds : List PyData} {vs : List V} {i : Nat} {d : PyData}, DqA K F vs ds → ds[i]? = some d → ∃ v, vs[i]? = some v ∧ Dq K F v d
  | [], _, i, _, h, e => by simp at e
  | d :: ds, _, 0, x, h, e => by
    cases h with
    | cons h1 h2 => simp at e; subst e; exact ⟨_, rfl, h1⟩
  | d :: ds, _, i + 1, x, h, e => by
    cases h with
    | cons h1 h2 =>
      obtain ⟨v, q1, q2⟩ := DqA.get (i := i) h2 (by simpa using e)
      exact ⟨v, by simpa using q1, q2⟩
theorem DqA.get' {K : PySem.W.Frag} {F : Hp} : ∀ {ds : List PyData} {vs : List V} {i : Nat} {v : V}, DqA K F vs ds → vs[i]? = some v → ∃ d, ds[i]? = some d ∧ Dq K F v d
  | [], _, i, _, h, e => by cases h; simp at e
  | d :: ds, _, 0, x, h, e => by
    cases h with
    | cons h1 h2 => simp at e; subst e; exact ⟨_, rfl, h1⟩
  | d :: ds, _, i + 1, x, h, e => by
    cases h with
    | cons h1 h2 =>
      obtain ⟨v, q1, q2⟩ := DqA.get' (i := i) h2 (by simpa using e)
      exact ⟨v, by simpa using q1, q2⟩
theorem DqA.append {K : PySem.W.Frag} {F : Hp} : ∀ {ds es : List PyData} {vs ws : List V}, DqA K F vs ds → DqA K F ws es → DqA K F (vs ++ ws) (ds ++ es)
  | [], _, _, _, h, k => by cases h; exact k
  | d :: ds, _, _, _, h, k => by
    cases h with
    | cons h1 h2 => exact .cons h1 (DqA.append h2 k)
theorem DqA.take {K : PySem.W.Frag} {F : Hp} : ∀ {ds : List PyData} {vs : List V} (n : Nat), DqA K F vs ds → DqA K F (vs.take n) (ds.take n)
  | _, _, 0, _ => .nil
  | [], _, n + 1, h => by cases h; exact .nil
  | d :: ds, _, n + 1, h => by
    cases h with
    | cons h1 h2 => exact .cons h1 (DqA.take n h2)
theorem DqA.drop {K : PySem.W.Frag} {F : Hp} : ∀ {ds : List PyData} {vs : List V} (n : Nat), DqA K F vs ds → DqA K F (vs.drop n) (ds.drop n)
  | _, _, 0, h => h
  | [], _, n + 1, h => by cases h; exact .nil
  | d :: ds, _, n + 1, h => by
    cases h with
    | cons h1 h2 => exact DqA.drop n h2
theorem DqA.set {K : PySem.W.Frag} {F : Hp} {v : V} {d : PyData} (q : Dq K F v d) : ∀ {ds : List PyData} {vs : List V} (n : Nat), DqA K F vs ds → DqA K F (vs.set n v) (ds.set n d)
  | [], _, n, h => by cases h; exact .nil
  | _ :: ds, _, 0, h => by
    cases h with
    | cons h1 h2 => exact .cons q h2
  | _ :: ds, _, n + 1, h => by
    cases h with
    | cons h1 h2 => exact .cons h1 (DqA.set q n h2)
theorem DqA.rev {K : PySem.W.Frag} {F : Hp} : ∀ {ds : List PyData} {vs : List V}, DqA K F vs ds → DqA K F vs.reverse ds.reverse
  | [], _, h => by cases h; exact .nil
  | _ :: ds, _, h => by
    cases h with
    | cons h1 h2 => rw [List.reverse_cons, List.reverse_cons]; exact DqA.append (DqA.rev h2) (.cons h1 .nil)
theorem DqA.ints {K : PySem.W.Frag} {F : Hp} : ∀ {ns : List Int} {vs : List V}, DqA K F vs (ns.map PyData.int) → vs = ns.map V.int
  | [], _, h => by cases h; rfl
  | _ :: ns, _, h => by
    cases h with
    | cons h1 h2 => cases h1; rw [DqA.ints h2]; rfl
theorem DqA.of_ints {K : PySem.W.Frag} {F : Hp} : ∀ (ns : List Int), DqA K F (ns.map V.int) (ns.map PyData.int)
  | [] => .nil
  | i :: ns => .cons (.int i) (DqA.of_ints ns)

/-! ## the frozen part of the heap -/
/-- the frozen part F of H: all tuples are in it -/
structure Cfg (F H : Hp) : Prop where
  sub : Same F H
  tup : ∀ a xs, H a = some (.tup xs) → F a = some (.tup xs)
structure Grow (F H F' H' : Hp) : Prop where
  cfg : Cfg F' H'
  ff : Same F F'
  hh : Same H H'
  nw : ∀ a o, F' a = some o → F a = some o ∨ H a = none
theorem Grow.refl {F H : Hp} (c : Cfg F H) : Grow F H F H := ⟨c, Same.refl _, Same.refl _, fun _ _ h => .inl h⟩
theorem same_none {H H' : Hp} (e : Same H H') {a : Addr} (h : H' a = none) : H a = none := e.free h
theorem Grow.trans {F H F1 H1 F2 H2 : Hp} (a : Grow F H F1 H1) (b : Grow F1 H1 F2 H2) : Grow F H F2 H2 :=
  ⟨b.cfg, a.ff.trans b.ff, a.hh.trans b.hh, fun x o h => by
    rcases b.nw x o h with h | h
    · exact a.nw x o h
    · exact .inr (same_none a.hh h)⟩
theorem Grow.stillFree {F H F' H' : Hp} (g : Grow F H F' H') {p : Addr} {o : HO} (f : F p = none) (h : H p = some o) : F' p = none := by
  cases q : F' p with
  | none => rfl
  | some u =>
    rcases g.nw p u q with z | z
    · rw [f] at z; cases z
    · rw [h] at z; cases z
/-- a new frozen object -/
theorem Grow.newF {F H : Hp} (c : Cfg F H) {p : Addr} (o : HO) (n : H p = none) : Grow F H (upd F p o) (upd H p o) where
  cfg := ⟨fun b u h => by
      by_cases e : b = p
      · subst e; rw [upd_same] at h ⊢; exact h
      · rw [upd_ne e] at h ⊢; exact c.sub b u h, fun b xs h => by
      by_cases e : b = p
      · subst e; rw [upd_same] at h ⊢; exact h
      · rw [upd_ne e] at h ⊢; exact c.tup b xs h⟩
  ff := fun b u h => by rw [upd_ne (ne_of_none h (same_none c.sub n))]; exact h
  hh := fun b u h => by rw [upd_ne (ne_of_none h n)]; exact h
  nw := fun b u h => by
    by_cases e : b = p
    · subst e; exact .inr n
    · rw [upd_ne e] at h; exact .inl h
/-- a new object of its own (no tuple) -/
theorem Grow.newO {F H : Hp} (c : Cfg F H) {p : Addr} (o : HO) (n : H p = none) (nt : ∀ xs, o ≠ .tup xs) : Grow F H F (upd H p o) where
  cfg := ⟨fun b u h => by rw [upd_ne (ne_of_none (c.sub _ _ h) n)]; exact c.sub b u h, fun b xs h => by
      by_cases e : b = p
      · subst e; rw [upd_same] at h; exact absurd (Option.some.inj h) (nt xs)
      · rw [upd_ne e] at h; exact c.tup b xs h⟩
  ff := Same.refl _
  hh := fun b u h => by rw [upd_ne (ne_of_none h n)]; exact h
  nw := fun _ _ h => .inl h
/-- what stood of its own is frozen -/
theorem Grow.freeze {F0 H0 F H : Hp} (g : Grow F0 H0 F H) {p : Addr} {o : HO} (n0 : H0 p = none) (f : F p = none) (h : H p = some o) : Grow F0 H0 (upd F p o) H where
  cfg := ⟨fun b u q => by
      by_cases e : b = p
      · subst e; rw [upd_same] at q; cases q; exact h
      · rw [upd_ne e] at q; exact g.cfg.sub b u q, fun b xs q => by
      by_cases e : b = p
      · subst e; rw [q] at h; cases h; exact upd_same
      · rw [upd_ne e]; exact g.cfg.tup b xs q⟩
  ff := fun b u q => by
    have : b ≠ p := fun e => by subst e; rw [g.ff b u q] at f; cases f
    rw [upd_ne this]; exact g.ff b u q
  hh := g.hh
  nw := fun b u q => by
    by_cases e : b = p
    · subst e; exact .inr n0
    · rw [upd_ne e] at q; exact g.nw b u q
/-- an object of its own changes -/
theorem Grow.write {F0 H0 F H : Hp} (g : Grow F0 H0 F H) {p : Addr} {o o' : HO} (n0 : H0 p = none) (f : F p = none) (h : H p = some o) (nt : ∀ xs, o' ≠ .tup xs) : Grow F0 H0 F (upd H p o') where
  cfg := ⟨fun b u q => by
      have : b ≠ p := fun e => by subst e; rw [q] at f; cases f
      rw [upd_ne this]; exact g.cfg.sub b u q, fun b xs q => by
      by_cases e : b = p
      · subst e; rw [upd_same] at q; exact absurd (Option.some.inj q) (nt xs)
      · rw [upd_ne e] at q; exact g.cfg.tup b xs q⟩
  ff := g.ff
  hh := fun b u q => by
    have : b ≠ p := fun e => by subst e; rw [q] at n0; cases n0
    rw [upd_ne this]; exact g.hh b u q
  nw := g.nw

/-! ## what a value stands for -/
def KD {κ : Type} (K : PySem.W.Frag) (F : Hp) : List (κ × V) → List (κ × PyData) → Prop := Paired fun (p : κ × V) (q : κ × PyData) => p.1 = q.1 ∧ Dq K F p.2 q.2
theorem KD.mono {κ : Type} {K : PySem.W.Frag} {F F' : Hp} (e : Same F F') {a : List (κ × V)} {b : List (κ × PyData)} (h : KD K F a b) : KD K F' a b :=
  Paired.mapP h fun _ _ z => ⟨z.1, z.2.mono e⟩
/-- a dict whose keys are tuples of ints, by its entries -/
def hashT (ks : List Int) : Int := reduceHash (Builtin.Tuple.tupleHashOf (ks.map hashInt))
abbrev TX := Nat × List (List Int × Addr × Value)
def DTOk (d : Addr) (t : TX) (h : Heap) : Prop := ∃ o es, h.get? d = some o ∧ o.ExactDict ∧ o.data = .dict es t.1 ∧ es.toList = t.2.map (fun x => (⟨hashT x.1, .ref x.2.1, x.2.2⟩ : DictEntry)) ∧ (t.2.map (·.1)).Nodup ∧ t.2.length ≤ sizeLine ∧ (d == sysModules) = false
def DTO (d : Addr) (xs : TX) : HO := .ext (DTOk d xs)
def KTl (K : PySem.W.Frag) (F : Hp) : List (List Int × Addr × Value) → List (List Int × PyData) → Prop := Paired fun p q => p.1 = q.1 ∧ SqT K F p.2.1 (p.1.map V.int) ∧ ∃ v, RelV v p.2.2 ∧ Dq K F v q.2
def KTq (K : PySem.W.Frag) (F : Hp) (t : TX) (kvs : List (List Int × PyData)) : Prop := KTl K F t.2 kvs
theorem KTl.mono {K : PySem.W.Frag} {F F' : Hp} (e : Same F F') {a : List (List Int × Addr × Value)} {b : List (List Int × PyData)} (h : KTl K F a b) : KTl K F' a b :=
  Paired.mapP h fun _ _ z => ⟨z.1, same_seqT e z.2.1, z.2.2.choose, z.2.2.choose_spec.1, z.2.2.choose_spec.2.mono e⟩
theorem KTq.mono {K : PySem.W.Frag} {F F' : Hp} (e : Same F F') {a : TX} {b : List (List Int × PyData)} (h : KTq K F a b) : KTq K F' a b := KTl.mono e h
theorem DTO_tup {d : Addr} {xs : TX} (ys : List V) : DTO d xs ≠ .tup ys := fun z => by
  have z' : HO.ext _ = HO.tup ys := z
  cases z'
def RVok (K : PySem.W.Frag) (H0 F H : Hp) (v : V) : RV → Prop
  | .d x => Dq K F v x
  | .ol xs => ∃ p vs, v = .ref p ∧ H0 p = none ∧ F p = none ∧ H p = some (.lst vs) ∧ DqA K F vs xs
  | .bl xs => ∃ p vs, v = .ref p ∧ H p = some (.lst vs) ∧ DqA K F vs xs
  | .od xs => ∃ p vs, v = .ref p ∧ H0 p = none ∧ F p = none ∧ H p = some (.dK vs) ∧ KD K F vs xs
  | .bd xs => ∃ p vs, v = .ref p ∧ H p = some (.dK vs) ∧ KD K F vs xs
  | .ot xs => ∃ p vs, v = .ref p ∧ H0 p = none ∧ F p = none ∧ H p = some (DTO p vs) ∧ KTq K F vs xs
  | .bt xs => ∃ p vs, v = .ref p ∧ H p = some (DTO p vs) ∧ KTq K F vs xs
  | .sc ns => ∃ a, v = .ref a ∧ SqL K F a (ns.map V.int)
  | .xo a dd _ fs => v = .ref a ∧ ∃ xs, H dd = some (.xd xs) ∧ KD K F xs fs
theorem RVok.grow {K : PySem.W.Frag} {H0 F H F' H' : Hp} {v : V} {r : RV} (h : RVok K H0 F H v r) (g : Grow F H F' H') : RVok K H0 F' H' v r := by
  cases r with
  | d x => exact Dq.mono g.ff x v h
  | ol xs => obtain ⟨p, vs, e, n0, f, hp, q⟩ := h; exact ⟨p, vs, e, n0, g.stillFree f hp, g.hh _ _ hp, DqA.mono g.ff _ _ q⟩
  | bl xs => obtain ⟨p, vs, e, hp, q⟩ := h; exact ⟨p, vs, e, g.hh _ _ hp, DqA.mono g.ff _ _ q⟩
  | od xs => obtain ⟨p, vs, e, n0, f, hp, q⟩ := h; exact ⟨p, vs, e, n0, g.stillFree f hp, g.hh _ _ hp, q.mono g.ff⟩
  | bd xs => obtain ⟨p, vs, e, hp, q⟩ := h; exact ⟨p, vs, e, g.hh _ _ hp, q.mono g.ff⟩
  | ot xs => obtain ⟨p, vs, e, n0, f, hp, q⟩ := h; exact ⟨p, vs, e, n0, g.stillFree f hp, g.hh _ _ hp, q.mono g.ff⟩
  | bt xs => obtain ⟨p, vs, e, hp, q⟩ := h; exact ⟨p, vs, e, g.hh _ _ hp, q.mono g.ff⟩
  | sc ns => obtain ⟨a, e, q⟩ := h; exact ⟨a, e, g.ff.seq q⟩
  | xo a dd c fs => obtain ⟨e, xs, hp, q⟩ := h; exact ⟨e, xs, g.hh _ _ hp, q.mono g.ff⟩
/-- fresh over a later heap is fresh over an earlier one -/
theorem RVok.older {K : PySem.W.Frag} {H0 H1 F H : Hp} {v : V} {r : RV} (h : RVok K H1 F H v r) (e : Same H0 H1) : RVok K H0 F H v r := by
  cases r with
  | ol xs => obtain ⟨p, vs, e1, n0, q⟩ := h; exact ⟨p, vs, e1, same_none e n0, q⟩
  | od xs => obtain ⟨p, vs, e1, n0, q⟩ := h; exact ⟨p, vs, e1, same_none e n0, q⟩
  | ot xs => obtain ⟨p, vs, e1, n0, q⟩ := h; exact ⟨p, vs, e1, same_none e n0, q⟩
  | _ => exact h

/-- of its own -/
def RV.own : RV → Bool
  | .ol _ | .od _ | .ot _ => true
  | _ => false
def RV.isB : RV → Bool
  | .bl _ | .bd _ | .bt _ => true
  | _ => false
/-- borrowed -/
def RV.bor : RV → RV
  | .ol xs => .bl xs
  | .od xs => .bd xs
  | .ot xs => .bt xs
  | r => r
theorem RVok.bor {K : PySem.W.Frag} {H0 F H : Hp} {v : V} {r : RV} (h : RVok K H0 F H v r) : RVok K H0 F H v r.bor := by
  cases r with
  | ol xs => obtain ⟨p, vs, e1, n0, f, q⟩ := h; exact ⟨p, vs, e1, q⟩
  | od xs => obtain ⟨p, vs, e1, n0, f, q⟩ := h; exact ⟨p, vs, e1, q⟩
  | ot xs => obtain ⟨p, vs, e1, n0, f, q⟩ := h; exact ⟨p, vs, e1, q⟩
  | _ => exact h

/-! ## the state of a body -/
structure Base where
  F : Hp
  H : Hp
structure StOk (K : PySem.W.Frag) (B : Base) (F : Hp) (env : VEnv) (σ : L2.St) (H : Hp) : Prop where
  gr : Grow B.F B.H F H
  len : env.length = σ.length
  sl : ∀ (i : Nat) (r : RV), env[i]? = some (some r) → ∃ v, σ[i]? = some (some v) ∧ RVok K B.H F H v r
  bo : ∀ (i : Nat) (r : RV) (p : Addr), env[i]? = some (some r) → r.isB = true → σ[i]? = some (some (.ref p)) → ∃ o, B.H p = some o
  dis : ∀ (i j : Nat) (r r' : RV) (p : Addr), i ≠ j → env[i]? = some (some r) → env[j]? = some (some r') → r.own = true → r'.own = true → σ[i]? = some (some (.ref p)) → σ[j]? ≠ some (some (.ref p))
theorem StOk.grow {K : PySem.W.Frag} {B : Base} {F H F' H' : Hp} {env : VEnv} {σ : L2.St} (s : StOk K B F env σ H) (g : Grow F H F' H') : StOk K B F' env σ H' :=
  ⟨s.gr.trans g, s.len, fun i r e => by
    obtain ⟨v, e1, h⟩ := s.sl i r e
    exact ⟨v, e1, h.grow g⟩, s.bo, s.dis⟩
theorem StOk.cfg {K : PySem.W.Frag} {B : Base} {F H : Hp} {env : VEnv} {σ : L2.St} (s : StOk K B F env σ H) : Cfg F H := s.gr.cfg

/-! ## expressions -/
section
variable (K : PySem.W.Frag) (ca : Nat → Addr)
def ExOk (F H : Hp) (cls : Value) (dx : Option Addr) (c : Nat) (fs : List (Str × PyData)) : Prop :=
  cls = .ref (ca c) ∧ ∃ dd xs, dx = some dd ∧ H dd = some (.xd xs) ∧ KD K F xs fs
def PostX (W : WX) (σ : L2.St) (F H : Hp) (c : Nat) (fs : List (Str × PyData)) : Prop :=
  ∀ F' H' cls dx, Grow F H F' H' → ExOk K ca F' H' cls dx c fs → W cls dx σ H'
def PostE (W : WX) (σ : L2.St) (F H : Hp) (Q : VK) : Rs RV → Prop
  | .ok r => ∀ F' H' v, Grow F H F' H' → RVok K H F' H' v r → Q v H'
  | .ex c fs => PostX K ca W σ F H c fs
  | .no => False
def PostB (W : WX) (σ : L2.St) (F H : Hp) (Q : Bool → Hp → Prop) : Rs Bool → Prop
  | .ok b => ∀ F' H', Grow F H F' H' → Q b H'
  | .ex c fs => PostX K ca W σ F H c fs
  | .no => False
def PostA (W : WX) (σ : L2.St) (F H : Hp) (Q : List V → Hp → Prop) : Rs (List RV) → Prop
  | .ok rs => ∀ F' H' vs, Grow F H F' H' → Paired (fun v r => RVok K H F' H' v r) vs rs → Q vs H'
  | .ex c fs => PostX K ca W σ F H c fs
  | .no => False
def SndE (W : WX) (t : TE) (f : VEnv → Rs RV) : Prop := ∀ B F env σ H Q, StOk K B F env σ H → PostE K ca W σ F H Q (f env) → t σ H Q
def SndT (W : WX) (t : TT) (f : VEnv → Rs Bool) : Prop := ∀ B F env σ H Q, StOk K B F env σ H → PostB K ca W σ F H Q (f env) → t σ H Q
def SndA (W : WX) (t : TA) (f : VEnv → Rs (List RV)) : Prop := ∀ B F env σ H Q, StOk K B F env σ H → PostA K ca W σ F H Q (f env) → t σ H Q
end
section
variable {K : PySem.W.Frag} {ca : Nat → Addr} {W : WX} {B : Base} {F H F1 H1 : Hp} {env : VEnv} {σ : L2.St}
theorem PostX.mono {c : Nat} {fs : List (Str × PyData)} (g : Grow F H F1 H1) (h : PostX K ca W σ F H c fs) : PostX K ca W σ F1 H1 c fs :=
  fun F' H' cls dx g' e => h F' H' cls dx (g.trans g') e
theorem PostE.mono {Q : VK} {m : Rs RV} (g : Grow F H F1 H1) (h : PostE K ca W σ F H Q m) : PostE K ca W σ F1 H1 Q m := by
  cases m with
  | ok r => exact fun F' H' v g' e => h F' H' v (g.trans g') (e.older g.hh)
  | ex c fs => exact PostX.mono g h
  | no => exact h
theorem PostB.mono {Q : Bool → Hp → Prop} {m : Rs Bool} (g : Grow F H F1 H1) (h : PostB K ca W σ F H Q m) : PostB K ca W σ F1 H1 Q m := by
  cases m with
  | ok r => exact fun F' H' g' => h F' H' (g.trans g')
  | ex c fs => exact PostX.mono g h
  | no => exact h
theorem paired_older {K : PySem.W.Frag} {H0 H1 F H : Hp} (e : Same H0 H1) {vs : List V} {rs : List RV} (h : Paired (fun v r => RVok K H1 F H v r) vs rs) : Paired (fun v r => RVok K H0 F H v r) vs rs :=
  Paired.mapP h fun _ _ z => z.older e
theorem paired_grow {K : PySem.W.Frag} {H0 F H F' H' : Hp} (g : Grow F H F' H') {vs : List V} {rs : List RV} (h : Paired (fun v r => RVok K H0 F H v r) vs rs) : Paired (fun v r => RVok K H0 F' H' v r) vs rs :=
  Paired.mapP h fun _ _ z => z.grow g
theorem PostA.mono {Q : List V → Hp → Prop} {m : Rs (List RV)} (g : Grow F H F1 H1) (h : PostA K ca W σ F H Q m) : PostA K ca W σ F1 H1 Q m := by
  cases m with
  | ok r => exact fun F' H' v g' e => h F' H' v (g.trans g') (paired_older g.hh e)
  | ex c fs => exact PostX.mono g h
  | no => exact h
/-- one part, then what hangs on it -/
theorem seqE {t : TE} {f : VEnv → Rs RV} {Q : VK} {α : Type} {k : RV → Rs α} (P : Rs α → Prop) (s : SndE K ca W t f) (st : StOk K B F env σ H)
    (post : P ((f env).bind k)) (hx : ∀ c fs, P (.ex c fs) → PostX K ca W σ F H c fs) (hn : ¬ P .no)
    (h : ∀ r F1 H1 v, P (k r) → Grow F H F1 H1 → RVok K H F1 H1 v r → Q v H1) : t σ H Q := by
  refine s B F env σ H Q st ?_
  cases e : f env with
  | ok r => rw [e] at post; exact fun F' H' v g q => h r F' H' v post g q
  | ex c fs => rw [e] at post; exact hx c fs post
  | no => rw [e] at post; exact hn post
theorem seqT {t : TT} {f : VEnv → Rs Bool} {Q : Bool → Hp → Prop} {α : Type} {k : Bool → Rs α} (P : Rs α → Prop) (s : SndT K ca W t f) (st : StOk K B F env σ H)
    (post : P ((f env).bind k)) (hx : ∀ c fs, P (.ex c fs) → PostX K ca W σ F H c fs) (hn : ¬ P .no)
    (h : ∀ r F1 H1, P (k r) → Grow F H F1 H1 → Q r H1) : t σ H Q := by
  refine s B F env σ H Q st ?_
  cases e : f env with
  | ok r => rw [e] at post; exact fun F' H' g => h r F' H' post g
  | ex c fs => rw [e] at post; exact hx c fs post
  | no => rw [e] at post; exact hn post
theorem seqA {t : TA} {f : VEnv → Rs (List RV)} {Q : List V → Hp → Prop} {α : Type} {k : List RV → Rs α} (P : Rs α → Prop) (s : SndA K ca W t f) (st : StOk K B F env σ H)
    (post : P ((f env).bind k)) (hx : ∀ c fs, P (.ex c fs) → PostX K ca W σ F H c fs) (hn : ¬ P .no)
    (h : ∀ r F1 H1 vs, P (k r) → Grow F H F1 H1 → Paired (fun v r => RVok K H F1 H1 v r) vs r → Q vs H1) : t σ H Q := by
  refine s B F env σ H Q st ?_
  cases e : f env with
  | ok r => rw [e] at post; exact fun F' H' v g q => h r F' H' v post g q
  | ex c fs => rw [e] at post; exact hx c fs post
  | no => rw [e] at post; exact hn post
end

structure VE (ca : Nat → Addr) (W : WX) (X : Cx) (e : Expr) (f : VEnv → Rs RV) : Prop where
  ex : ∃ t, PE X e t ∧ SndE X.K ca W t f
structure VT (ca : Nat → Addr) (W : WX) (X : Cx) (e : Expr) (f : VEnv → Rs Bool) : Prop where
  ex : ∃ t, PT X e t ∧ SndT X.K ca W t f
structure VW (ca : Nat → Addr) (W : WX) (X : Cx) (e : Expr) (f : VEnv → Rs Bool) : Prop where
  ex : ∃ t, PW X e t ∧ SndT X.K ca W t f
structure VA (ca : Nat → Addr) (W : WX) (X : Cx) (es : List Expr) (f : VEnv → Rs (List RV)) : Prop where
  ex : ∃ t, PA X es t ∧ SndA X.K ca W t f

section
variable {ca : Nat → Addr} {W : WX} {X : Cx} {a b e : Expr} {es : List Expr} {fa fb : VEnv → Rs RV} {pos : Pos}
/-! ### names and constants -/
def cC (x : PyData) : VEnv → Rs RV := fun _ => .ok (.d x)
theorem ve_int {i j pos} : VE ca W X (.Constant (.int i) j pos) (cC (.int i)) := ⟨_, pe_int, fun _ _ _ _ _ _ st p => p _ _ _ (Grow.refl st.cfg) (.int i)⟩
theorem ve_bl {b j pos} : VE ca W X (.Constant (.bool b) j pos) (cC (.bool b)) := ⟨_, pe_bl, fun _ _ _ _ _ _ st p => p _ _ _ (Grow.refl st.cfg) (.bl b)⟩
theorem ve_non {j pos} : VE ca W X (.Constant .none j pos) (cC .none) := ⟨_, pe_non, fun _ _ _ _ _ _ st p => p _ _ _ (Grow.refl st.cfg) .non⟩
theorem ve_str {x j pos} : VE ca W X (.Constant (.str x) j pos) (cC (.str x)) := ⟨_, pe_str, fun _ _ _ _ _ _ st p => p _ _ _ (Grow.refl st.cfg) (.str x)⟩
/-- a name: borrowed where the slot's list or dict is of its own -/
def cV (i : Nat) : VEnv → Rs RV := fun env => match env[i]? with
  | some (some r) => .ok r.bor
  | _ => .no
theorem snd_var {K : PySem.W.Frag} {i : Nat} : SndE K ca W (tVar i) (cV i) := by
  intro B F env σ H Q st p
  unfold cV at p
  split at p
  · rename_i r e
    obtain ⟨v, e1, h⟩ := st.sl i r e
    refine ⟨v, e1, p F H v (Grow.refl st.cfg) ?_⟩
    cases r with
    | ol xs => exact h.bor
    | od xs => exact h.bor
    | ot xs => exact h.bor
    | _ => exact h
  · exact p.elim
theorem vv (i : Nat) {x : Str} {pos : Pos} (hN : X.N[i]? = some x := by rfl) (hv : Vis X.env.scope x := by first | exact Or.inl rfl | exact Or.inr (Or.inl rfl) | exact Or.inr (Or.inr rfl)) (hd : (x == ("__debug__" : Str)) = false := by decide)
    (hcd : (x == ("__classdict__" : Str)) = false := by decide) : VE ca W X (.Name x pos) (cV i) := ⟨_, pe_var hN hv hd hcd, snd_var⟩
/-- a constant of the module: an int, a text -/
theorem ve_gint {x : Str} {i : Int} {t : Tok} {pos : Pos} (hg : Gl X x) (hm : X.mg x = some (.int i t)) (hd : (x == ("__debug__" : Str)) = false := by decide) : VE ca W X (.Name x pos) (cC (.int i)) :=
  ⟨_, pe_glob hg hm (v := .int i) ⟨t, rfl⟩ hd, fun _ _ _ _ _ _ st p => p _ _ _ (Grow.refl st.cfg) (.int i)⟩
theorem ve_gstr {x y : Str} {t : Tok} {pos : Pos} (hg : Gl X x) (hm : X.mg x = some (.str y t)) (hd : (x == ("__debug__" : Str)) = false := by decide) : VE ca W X (.Name x pos) (cC (.str y)) :=
  ⟨_, pe_glob hg hm (v := .str y) ⟨t, rfl⟩ hd, fun _ _ _ _ _ _ st p => p _ _ _ (Grow.refl st.cfg) (.str y)⟩

/-! ### operators by their values -/
def Op2S (K : PySem.W.Frag) (ca : Nat → Addr) (r : R2) (g : RV → RV → Rs RV) : Prop := ∀ (W : WX) σ F0 H0 F H v1 v2 a b Q, Grow F0 H0 F H → RVok K H0 F H v1 a → RVok K H0 F H v2 b → PostE K ca W σ F0 H0 Q (g a b) → r v1 v2 H Q
def Op1S (K : PySem.W.Frag) (ca : Nat → Addr) (r : V → Hp → VK → Prop) (g : RV → Rs RV) : Prop := ∀ (W : WX) σ F0 H0 F H v a Q, Grow F0 H0 F H → RVok K H0 F H v a → PostE K ca W σ F0 H0 Q (g a) → r v H Q
def CaS (K : PySem.W.Frag) (ca : Nat → Addr) (r : List V → Hp → VK → Prop) (g : List RV → Rs RV) : Prop := ∀ (W : WX) σ F0 H0 F H vs as Q, Grow F0 H0 F H → Paired (fun v a => RVok K H0 F H v a) vs as → PostE K ca W σ F0 H0 Q (g as) → r vs H Q
def c2 (g : RV → RV → Rs RV) (fa fb : VEnv → Rs RV) : VEnv → Rs RV := fun env => (fa env).bind fun x => (fb env).bind fun y => g x y
def c1 (g : RV → Rs RV) (fa : VEnv → Rs RV) : VEnv → Rs RV := fun env => (fa env).bind g
theorem snd_op2 {K : PySem.W.Frag} {r : R2} {g : RV → RV → Rs RV} {ta tb : TE} (hr : Op2S K ca r g) (sa : SndE K ca W ta fa) (sb : SndE K ca W tb fb) : SndE K ca W (tOp r ta tb) (c2 g fa fb) := by
  intro B F env σ H Q st p
  show ta σ H fun x H1 => tb σ H1 fun y H2 => r x y H2 Q
  refine seqE (PostE K ca W σ F H Q) sa st p (fun _ _ h => h) (fun h => h) fun x F1 H1 v1 p1 g1 q1 => ?_
  refine seqE (PostE K ca W σ F H Q) sb (st.grow g1) p1 (fun _ _ h => PostX.mono g1 h) (fun h => h) fun y F2 H2 v2 p2 g2 q2 => ?_
  exact hr W σ F H F2 H2 v1 v2 x y Q (g1.trans g2) (q1.grow g2) (q2.older g1.hh) p2
theorem snd_op1 {K : PySem.W.Frag} {r : V → Hp → VK → Prop} {g : RV → Rs RV} {ta : TE} (hr : Op1S K ca r g) (sa : SndE K ca W ta fa) : SndE K ca W (tUn r ta) (c1 g fa) := by
  intro B F env σ H Q st p
  show ta σ H fun x H1 => r x H1 Q
  refine seqE (PostE K ca W σ F H Q) sa st p (fun _ _ h => h) (fun h => h) fun x F1 H1 v1 p1 g1 q1 => ?_
  exact hr W σ F H F1 H1 v1 x Q g1 q1 p1
theorem ve_op {op : Operator} {r : R2} {g : RV → RV → Rs RV} (ho : OpR X (binaryOp op) r) (hr : Op2S X.K ca r g) (ha : VE ca W X a fa) (hb : VE ca W X b fb) : VE ca W X (.BinOp a op b pos) (c2 g fa fb) := by
  obtain ⟨ta, pa, sa⟩ := ha
  obtain ⟨tb, pb, sb⟩ := hb
  exact ⟨_, pe_op ho pa pb, snd_op2 hr sa sb⟩
theorem ve_un {op : UnaryOp} {r : V → Hp → VK → Prop} {g : RV → Rs RV} (ho : UnR X (unaryOp op) r) (hr : Op1S X.K ca r g) (ha : VE ca W X a fa) : VE ca W X (.UnaryOp op a pos) (c1 g fa) := by
  obtain ⟨ta, pa, sa⟩ := ha
  exact ⟨_, pe_un ho pa, snd_op1 hr sa⟩
theorem ve_ix {r : R2} {g : RV → RV → Rs RV} (ho : IxR X r) (hr : Op2S X.K ca r g) (ha : VE ca W X a fa) (hb : VE ca W X b fb) (hs : PlainIx b) : VE ca W X (.Subscript a b pos) (c2 g fa fb) := by
  obtain ⟨ta, pa, sa⟩ := ha
  obtain ⟨tb, pb, sb⟩ := hb
  exact ⟨_, pe_ix ho pa pb hs, snd_op2 hr sa sb⟩
end
end VL

namespace VL
open PySem PySem.Spec PyProof.Rows L2

/-! ## freezing -/
def RV.toD : RV → Option PyData
  | .d x => some x
  | .ol xs => some (.list xs)
  | _ => none
def allD : List RV → Option (List PyData)
  | [] => some []
  | r :: rs => r.toD.bind fun d => (allD rs).bind fun ds => some (d :: ds)
theorem allD_len : ∀ {rs : List RV} {ds : List PyData}, allD rs = some ds → ds.length = rs.length
  | [], ds, h => by simp [allD] at h; subst h; rfl
  | r :: rs, ds, h => by
    unfold allD at h
    cases e : r.toD with
    | none => rw [e] at h; simp at h
    | some d =>
      cases e2 : allD rs with
      | none => rw [e, e2] at h; simp at h
      | some es => rw [e, e2] at h; simp at h; subst h; simp [allD_len e2]
def Fz (K : PySem.W.Frag) (H0 F H : Hp) (v : V) (d : PyData) : Prop := Dq K F v d ∨ ∃ p ws xs, v = .ref p ∧ d = .list xs ∧ H0 p = none ∧ H p = some (.lst ws) ∧ DqA K F ws xs
theorem Fz.of {K : PySem.W.Frag} {H0 F H : Hp} {v : V} {r : RV} {d : PyData} (h : RVok K H0 F H v r) (e : r.toD = some d) : Fz K H0 F H v d := by
  cases r with
  | d x => cases e; exact .inl h
  | ol xs => cases e; obtain ⟨p, vs, e1, n0, f, hp, q⟩ := h; exact .inr ⟨p, vs, xs, e1, rfl, n0, hp, q⟩
  | _ => cases e
theorem Fz.ofs {K : PySem.W.Frag} {H0 F H : Hp} : ∀ {rs : List RV} {vs : List V} {ds : List PyData}, Paired (fun v r => RVok K H0 F H v r) vs rs → allD rs = some ds → Paired (fun v d => Fz K H0 F H v d) vs ds
  | [], _, ds, h, e => by cases h; simp [allD] at e; subst e; exact .nil
  | r :: rs, _, ds, h, e => by
    cases h with
    | cons h1 h2 =>
      unfold allD at e
      cases e1 : r.toD with
      | none => rw [e1] at e; simp at e
      | some d =>
        cases e2 : allD rs with
        | none => rw [e1, e2] at e; simp at e
        | some es => rw [e1, e2] at e; simp at e; subst e; exact .cons (Fz.of h1 e1) (Fz.ofs h2 e2)
theorem Fz.mono {K : PySem.W.Frag} {H0 F F' H : Hp} (e : Same F F') {v : V} {d : PyData} (h : Fz K H0 F H v d) : Fz K H0 F' H v d := by
  rcases h with h | ⟨p, ws, xs, e1, e2, n0, hp, q⟩
  · exact .inl (h.mono e)
  · exact .inr ⟨p, ws, xs, e1, e2, n0, hp, DqA.mono e _ _ q⟩
theorem frz {K : PySem.W.Frag} {F0 H0 F H : Hp} (g : Grow F0 H0 F H) {v : V} {d : PyData} (h : Fz K H0 F H v d) : ∃ F', Grow F0 H0 F' H ∧ Same F F' ∧ Dq K F' v d := by
  rcases h with h | ⟨p, ws, xs, rfl, rfl, n0, hp, q⟩
  · exact ⟨F, g, Same.refl _, h⟩
  · cases e : F p with
    | none =>
      have s : Same F (upd F p (.lst ws)) := fun b u k => by rw [upd_ne (ne_of_none k e)]; exact k
      exact ⟨_, g.freeze n0 e hp, s, .lst upd_same (DqA.mono s _ _ q)⟩
    | some o =>
      have := g.cfg.sub _ _ e
      rw [hp] at this
      cases this
      exact ⟨F, g, Same.refl _, .lst e q⟩
theorem frzs {K : PySem.W.Frag} {F0 H0 H : Hp} : ∀ {F : Hp} {vs : List V} {ds : List PyData}, Grow F0 H0 F H → Paired (fun v d => Fz K H0 F H v d) vs ds → ∃ F', Grow F0 H0 F' H ∧ Same F F' ∧ DqA K F' vs ds
  | F, _, _, g, .nil => ⟨F, g, Same.refl _, .nil⟩
  | F, _, _, g, .cons h1 h2 => by
    obtain ⟨F1, g1, s1, q1⟩ := frz g h1
    obtain ⟨F2, g2, s2, q2⟩ := frzs g1 (Paired.mapP h2 fun _ _ z => z.mono s1)
    exact ⟨F2, g2, s1.trans s2, .cons (q1.mono s2) q2⟩

section
variable {ca : Nat → Addr} {W : WX} {X : Cx} {a b e : Expr} {es : List Expr} {fa fb : VEnv → Rs RV} {pos : Pos}
/-! ## argument lists, displays -/
def aN : VEnv → Rs (List RV) := fun _ => .ok []
def aC (f : VEnv → Rs RV) (g : VEnv → Rs (List RV)) : VEnv → Rs (List RV) := fun env => (f env).bind fun x => (g env).bind fun xs => .ok (x :: xs)
theorem va_nil : VA ca W X [] aN := ⟨_, pa_nil, fun _ _ _ _ _ _ st p => p _ _ _ (Grow.refl st.cfg) .nil⟩
theorem va_cons {f : VEnv → Rs RV} {g : VEnv → Rs (List RV)} (he : VE ca W X e f) (hr : VA ca W X es g) (hs : starEach (e :: es) X.env = (false, eval e X.env) :: starEach es X.env := by rfl) : VA ca W X (e :: es) (aC f g) := by
  obtain ⟨te, pe, se⟩ := he
  obtain ⟨tr, pr, sr⟩ := hr
  refine ⟨_, pa_cons pe pr hs, fun B F env σ H Q st p => ?_⟩
  show te σ H fun x H1 => tr σ H1 fun xs H2 => Q (x :: xs) H2
  refine seqE (PostA X.K ca W σ F H Q) se st p (fun _ _ h => h) (fun h => h) fun x F1 H1 v1 p1 g1 q1 => ?_
  refine seqA (PostA X.K ca W σ F H Q) sr (st.grow g1) p1 (fun _ _ h => PostX.mono g1 h) (fun h => h) fun xs F2 H2 vs p2 g2 q2 => ?_
  exact p2 F2 H2 (v1 :: vs) (g1.trans g2) (.cons (q1.grow g2) (paired_older g1.hh q2))
def rsO {α : Type} : Option α → Rs α
  | some a => .ok a
  | none => .no
@[simp] theorem rsO_some {α : Type} (a : α) : rsO (some a) = .ok a := rfl
@[simp] theorem rsO_none {α : Type} : rsO (none : Option α) = .no := rfl
def gTupl (rs : List RV) : Rs RV := (rsO (allD rs)).bind fun ds => if ds.length ≤ 1000 then .ok (.d (.tuple ds)) else .no
def gList (rs : List RV) : Rs RV := (rsO (allD rs)).bind fun ds => if ds.length ≤ 1000 then .ok (.ol ds) else .no
def cA (g : List RV → Rs RV) (f : VEnv → Rs (List RV)) : VEnv → Rs RV := fun env => (f env).bind g
theorem small_line {n : Nat} (h : n ≤ 1000) : n ≤ sizeLine := Nat.le_of_lt (small1000 h)
theorem ve_tup {x1} {f : VEnv → Rs (List RV)} (h : VA ca W X es f) : VE ca W X (.Tuple es x1 pos) (cA gTupl f) := by
  obtain ⟨t, pa, sa⟩ := h
  refine ⟨_, pe_tup pa, fun B F env σ H Q st p => ?_⟩
  show t σ H fun xs H1 => xs.length ≤ sizeLine ∧ ∀ p, H1 p = none → Q (.ref p) (upd H1 p (.tup xs))
  refine seqA (PostE X.K ca W σ F H Q) sa st p (fun _ _ h => h) (fun h => h) fun rs F1 H1 vs p1 g1 q1 => ?_
  unfold gTupl at p1
  cases e : allD rs with
  | none => rw [e] at p1; exact p1.elim
  | some ds =>
    rw [e] at p1
    simp only [rsO_some, Rs.bind_ok] at p1
    split at p1
    · rename_i hz
      obtain ⟨F2, g2, s2, q2⟩ := frzs g1 (Fz.ofs q1 e)
      refine ⟨by rw [q2.length]; exact small_line hz, fun a n => ?_⟩
      have g3 := Grow.newF g2.cfg (.tup vs) n
      exact p1 _ _ _ (g2.trans g3) (.tup (.inl (.inl upd_same)) (DqA.mono g3.ff _ _ q2))
    · exact p1.elim
theorem ve_lst {f : VEnv → Rs (List RV)} (h : VA ca W X es f) : VE ca W X (.List es pos) (cA gList f) := by
  obtain ⟨t, pa, sa⟩ := h
  refine ⟨_, pe_lst pa, fun B F env σ H Q st p => ?_⟩
  show t σ H fun xs H1 => xs.length ≤ sizeLine ∧ ∀ p, H1 p = none → Q (.ref p) (upd H1 p (.lst xs))
  refine seqA (PostE X.K ca W σ F H Q) sa st p (fun _ _ h => h) (fun h => h) fun rs F1 H1 vs p1 g1 q1 => ?_
  unfold gList at p1
  cases e : allD rs with
  | none => rw [e] at p1; exact p1.elim
  | some ds =>
    rw [e] at p1
    simp only [rsO_some, Rs.bind_ok] at p1
    split at p1
    · rename_i hz
      obtain ⟨F2, g2, s2, q2⟩ := frzs g1 (Fz.ofs q1 e)
      refine ⟨by rw [q2.length]; exact small_line hz, fun a n => ?_⟩
      have g3 := Grow.newO g2.cfg (.lst vs) n (fun _ z => by cases z)
      exact p1 _ _ _ (g2.trans g3) ⟨a, vs, rfl, same_none g2.hh n, same_none g2.cfg.sub n, upd_same, q2⟩
    · exact p1.elim

/-! ## comparisons and tests -/
theorem ve_cmp {op : CmpOp} {r : R2} {g : RV → RV → Rs RV} (ho : OpR X (compareOp op) r) (hr : Op2S X.K ca r g) (ha : VE ca W X a fa) (hb : VE ca W X b fb) (hm : behindInMarks op b = false) : VE ca W X (.Compare a [op] [b] pos) (c2 g fa fb) := by
  obtain ⟨ta, pa, sa⟩ := ha
  obtain ⟨tb, pb, sb⟩ := hb
  exact ⟨_, pe_cmpR ho pa pb hm, snd_op2 hr sa sb⟩
/-- a value that is True or False -/
def asB : RV → Rs Bool
  | .d (.bool b) => .ok b
  | _ => .no
def cB (f : VEnv → Rs RV) : VEnv → Rs Bool := fun env => (f env).bind asB
theorem snd_test {K : PySem.W.Frag} {t : TE} {f : VEnv → Rs RV} (s : SndE K ca W t f) : SndT K ca W (tTest t) (cB f) := by
  intro B F env σ H Q st p
  show t σ H fun x H' => ∃ k, x = .bl k ∧ Q k H'
  refine seqE (PostB K ca W σ F H Q) s st p (fun _ _ h => h) (fun h => h) fun x F1 H1 v1 p1 g1 q1 => ?_
  unfold asB at p1
  split at p1
  · rename_i k
    cases q1
    exact ⟨k, rfl, p1 _ _ g1⟩
  · exact p1.elim
theorem vt_cmp {op : CmpOp} {r : R2} {g : RV → RV → Rs RV} (ho : OpR X (compareOp op) r) (hr : Op2S X.K ca r g) (ha : VE ca W X a fa) (hb : VE ca W X b fb) (hm : behindInMarks op b = false) : VT ca W X (.Compare a [op] [b] pos) (cB (c2 g fa fb)) := by
  obtain ⟨ta, pa, sa⟩ := ha
  obtain ⟨tb, pb, sb⟩ := hb
  exact ⟨_, pt_cmpR ho pa pb hm, snd_test (snd_op2 hr sa sb)⟩
theorem vt_val {f : VEnv → Rs RV} (h : VE ca W X e f) (he : ∀ whole, isTrue e X.env whole = (do let v ← whole; standAt e.pos; holding [v] (truthy v)) := by intro _; rfl) : VT ca W X e (cB f) := by
  obtain ⟨t, pe, se⟩ := h
  exact ⟨_, pt_val pe he, snd_test se⟩
def bNot (f : VEnv → Rs Bool) : VEnv → Rs Bool := fun env => (f env).bind fun b => .ok (!b)
def bAnd (f g : VEnv → Rs Bool) : VEnv → Rs Bool := fun env => (f env).bind fun b => if b = true then g env else .ok false
def bOr (f g : VEnv → Rs Bool) : VEnv → Rs Bool := fun env => (f env).bind fun b => if b = true then .ok true else g env
theorem vt_not {f : VEnv → Rs Bool} (h : VT ca W X a f) : VT ca W X (.UnaryOp .Not a pos) (bNot f) := by
  obtain ⟨t, pe, se⟩ := h
  refine ⟨_, pt_not pe, fun B F env σ H Q st p => ?_⟩
  show t σ H fun c H1 => Q (!c) H1
  exact seqT (PostB X.K ca W σ F H Q) se st p (fun _ _ h => h) (fun h => h) fun x F1 H1 p1 g1 => p1 _ _ g1
theorem vw_and1 {f : VEnv → Rs Bool} (h : VT ca W X a f) : VW ca W X (.BoolOp .And [a] pos) f := by
  obtain ⟨t, pe, se⟩ := h
  exact ⟨_, pw_and1 pe, se⟩
theorem vw_or1 {f : VEnv → Rs Bool} (h : VT ca W X a f) : VW ca W X (.BoolOp .Or [a] pos) f := by
  obtain ⟨t, pe, se⟩ := h
  exact ⟨_, pw_or1 pe, se⟩
theorem vw_and {rest : List Expr} {f g : VEnv → Rs Bool} (h : VT ca W X a f) (h2 : VW ca W X (.BoolOp .And (b :: rest) pos) g) : VW ca W X (.BoolOp .And (a :: b :: rest) pos) (bAnd f g) := by
  obtain ⟨t, pe, se⟩ := h
  obtain ⟨u, pu, su⟩ := h2
  refine ⟨_, pw_and pe pu, fun B F env σ H Q st p => ?_⟩
  show t σ H fun c H1 => if c = true then u σ H1 Q else Q false H1
  refine seqT (PostB X.K ca W σ F H Q) se st p (fun _ _ h => h) (fun h => h) fun x F1 H1 p1 g1 => ?_
  cases x with
  | true => rw [if_pos rfl]; rw [if_pos rfl] at p1; exact su B F1 env σ H1 Q (st.grow g1) (PostB.mono g1 p1)
  | false => rw [if_neg Bool.false_ne_true]; rw [if_neg Bool.false_ne_true] at p1; exact p1 _ _ g1
theorem vw_or {rest : List Expr} {f g : VEnv → Rs Bool} (h : VT ca W X a f) (h2 : VW ca W X (.BoolOp .Or (b :: rest) pos) g) : VW ca W X (.BoolOp .Or (a :: b :: rest) pos) (bOr f g) := by
  obtain ⟨t, pe, se⟩ := h
  obtain ⟨u, pu, su⟩ := h2
  refine ⟨_, pw_or pe pu, fun B F env σ H Q st p => ?_⟩
  show t σ H fun c H1 => if c = true then Q true H1 else u σ H1 Q
  refine seqT (PostB X.K ca W σ F H Q) se st p (fun _ _ h => h) (fun h => h) fun x F1 H1 p1 g1 => ?_
  cases x with
  | false => rw [if_neg Bool.false_ne_true]; rw [if_neg Bool.false_ne_true] at p1; exact su B F1 env σ H1 Q (st.grow g1) (PostB.mono g1 p1)
  | true => rw [if_pos rfl]; rw [if_pos rfl] at p1; exact p1 _ _ g1
theorem vw {f : VEnv → Rs Bool} (h : VW ca W X e f) : VT ca W X e f := by
  obtain ⟨t, pe, se⟩ := h
  exact ⟨_, pe.pt, se⟩
/-! and, or, not as values (truth values) -/
def vAnd (f g : VEnv → Rs RV) : VEnv → Rs RV := fun env => (cB f env).bind fun b => if b = true then g env else .ok (.d (.bool false))
def vOr (f g : VEnv → Rs RV) : VEnv → Rs RV := fun env => (cB f env).bind fun b => if b = true then .ok (.d (.bool true)) else g env
def vNot (f : VEnv → Rs RV) : VEnv → Rs RV := fun env => (cB f env).bind fun b => .ok (.d (.bool (!b)))
theorem ve_one {op} {f : VEnv → Rs RV} (h : VE ca W X a f) : VE ca W X (.BoolOp op [a] pos) f := by
  obtain ⟨t, pe, se⟩ := h
  exact ⟨_, pe_one pe, se⟩
theorem seqBE {K : PySem.W.Frag} {B : Base} {F H : Hp} {env : VEnv} {σ : L2.St} {t : TE} {f : VEnv → Rs RV} {Q : VK} {α : Type} {k : Bool → Rs α} (P : Rs α → Prop) (s : SndE K ca W t f) (st : StOk K B F env σ H)
    (post : P ((cB f env).bind k)) (hx : ∀ c fs, P (.ex c fs) → PostX K ca W σ F H c fs) (hn : ¬ P .no)
    (h : ∀ r F1 H1, P (k r) → Grow F H F1 H1 → Q (.bl r) H1) : t σ H Q := by
  refine s B F env σ H Q st ?_
  unfold cB at post
  cases e : f env with
  | ok r =>
    rw [e] at post
    intro F' H' v g q
    cases r with
    | d x =>
      cases x with
      | bool b => cases q; exact h b F' H' post g
      | _ => exact absurd post hn
    | _ => exact absurd post hn
  | ex c fs => rw [e] at post; exact hx c fs post
  | no => rw [e] at post; exact hn post
theorem ve_and {rest : List Expr} {f g : VEnv → Rs RV} (h : VE ca W X a f) (h2 : VE ca W X (.BoolOp .And (b :: rest) pos) g) : VE ca W X (.BoolOp .And (a :: b :: rest) pos) (vAnd f g) := by
  obtain ⟨t, pe, se⟩ := h
  obtain ⟨u, pu, su⟩ := h2
  refine ⟨_, pe_and pe pu, fun B F env σ H Q st p => ?_⟩
  show t σ H fun x H1 => ∃ c, x = .bl c ∧ if c = true then u σ H1 Q else Q (.bl false) H1
  refine seqBE (PostE X.K ca W σ F H Q) se st p (fun _ _ h => h) (fun h => h) fun x F1 H1 p1 g1 => ⟨x, rfl, ?_⟩
  cases x with
  | true => rw [if_pos rfl]; rw [if_pos rfl] at p1; exact su B F1 env σ H1 Q (st.grow g1) (PostE.mono g1 p1)
  | false => rw [if_neg Bool.false_ne_true]; rw [if_neg Bool.false_ne_true] at p1; exact p1 _ _ _ g1 (.bl false)
theorem ve_or {rest : List Expr} {f g : VEnv → Rs RV} (h : VE ca W X a f) (h2 : VE ca W X (.BoolOp .Or (b :: rest) pos) g) : VE ca W X (.BoolOp .Or (a :: b :: rest) pos) (vOr f g) := by
  obtain ⟨t, pe, se⟩ := h
  obtain ⟨u, pu, su⟩ := h2
  refine ⟨_, pe_or pe pu, fun B F env σ H Q st p => ?_⟩
  show t σ H fun x H1 => ∃ c, x = .bl c ∧ if c = true then Q (.bl true) H1 else u σ H1 Q
  refine seqBE (PostE X.K ca W σ F H Q) se st p (fun _ _ h => h) (fun h => h) fun x F1 H1 p1 g1 => ⟨x, rfl, ?_⟩
  cases x with
  | false => rw [if_neg Bool.false_ne_true]; rw [if_neg Bool.false_ne_true] at p1; exact su B F1 env σ H1 Q (st.grow g1) (PostE.mono g1 p1)
  | true => rw [if_pos rfl]; rw [if_pos rfl] at p1; exact p1 _ _ _ g1 (.bl true)
theorem ve_not {f : VEnv → Rs RV} (h : VE ca W X a f) : VE ca W X (.UnaryOp .Not a pos) (vNot f) := by
  obtain ⟨t, pe, se⟩ := h
  refine ⟨_, pe_not pe, fun B F env σ H Q st p => ?_⟩
  show t σ H fun x H1 => ∃ c, x = .bl c ∧ Q (.bl (!c)) H1
  exact seqBE (PostE X.K ca W σ F H Q) se st p (fun _ _ h => h) (fun h => h) fun x F1 H1 p1 g1 => ⟨x, rfl, p1 _ _ _ g1 (.bl _)⟩
def vIf (t : VEnv → Rs Bool) (f g : VEnv → Rs RV) : VEnv → Rs RV := fun env => (t env).bind fun b => if b = true then f env else g env
theorem ve_ifExp {c : Expr} {tc : VEnv → Rs Bool} (hc : VT ca W X c tc) (ha : VE ca W X a fa) (hb : VE ca W X b fb) : VE ca W X (.IfExp c a b pos) (vIf tc fa fb) := by
  obtain ⟨t, pe, se⟩ := hc
  obtain ⟨ta, pa, sa⟩ := ha
  obtain ⟨tb, pb, sb⟩ := hb
  refine ⟨_, pe_ifExp pe pa pb, fun B F env σ H Q st p => ?_⟩
  show t σ H fun c H1 => if c = true then ta σ H1 Q else tb σ H1 Q
  refine seqT (PostE X.K ca W σ F H Q) se st p (fun _ _ h => h) (fun h => h) fun x F1 H1 p1 g1 => ?_
  cases x with
  | true => rw [if_pos rfl]; rw [if_pos rfl] at p1; exact sa B F1 env σ H1 Q (st.grow g1) (PostE.mono g1 p1)
  | false => rw [if_neg Bool.false_ne_true]; rw [if_neg Bool.false_ne_true] at p1; exact sb B F1 env σ H1 Q (st.grow g1) (PostE.mono g1 p1)

/-! ## calls -/
theorem snd_call {K : PySem.W.Frag} {r : List V → Hp → VK → Prop} {g : List RV → Rs RV} {t : TA} {f : VEnv → Rs (List RV)} (hr : CaS K ca r g) (sa : SndA K ca W t f) : SndE K ca W (tCB r t) (cA g f) := by
  intro B F env σ H Q st p
  show t σ H fun vs H1 => r vs H1 Q
  refine seqA (PostE K ca W σ F H Q) sa st p (fun _ _ h => h) (fun h => h) fun rs F1 H1 vs p1 g1 q1 => ?_
  exact hr W σ F H F1 H1 vs rs Q g1 q1 p1
theorem ve_callB {id : String} {x : Str} {p : Pos} {r : List V → Hp → VK → Prop} {g : List RV → Rs RV} {f : VEnv → Rs (List RV)} (hc : CallR X (.builtin id) r) (hr : CaS X.K ca r g) (hg : Gl X x) (hm : X.mg x = none) (hv : bootBuiltins x = some (.builtin id)) (ha : VA ca W X (e :: es) f) (hn : x ≠ "__name__" := by decide) (hdb : (x == ("__debug__" : Str)) = false := by decide)
    (he : starEach (e :: es) X.env = (false, eval e X.env) :: starEach es X.env := by rfl) (hpl : (backTo pos (starEach es X.env)).any (·.1) = false := by rfl) : VE ca W X (.Call (.Name x p) (e :: es) [] pos) (cA g f) := by
  obtain ⟨t, pa, sa⟩ := ha
  exact ⟨_, pe_callB hc hg hm hv pa hn hdb he hpl, snd_call hr sa⟩
theorem ve_callTy {T : String} {x : Str} {p : Pos} {r : List V → Hp → VK → Prop} {g : List RV → Rs RV} {f : VEnv → Rs (List RV)} (hc : CallR X (.type T) r) (hr : CaS X.K ca r g) (hg : Gl X x) (hm : X.mg x = none) (hv : bootBuiltins x = some (.type T)) (ha : VA ca W X (e :: es) f) (hn : x ≠ "__name__" := by decide) (hdb : (x == ("__debug__" : Str)) = false := by decide)
    (he : starEach (e :: es) X.env = (false, eval e X.env) :: starEach es X.env := by rfl) (hpl : (backTo pos (starEach es X.env)).any (·.1) = false := by rfl) : VE ca W X (.Call (.Name x p) (e :: es) [] pos) (cA g f) := by
  obtain ⟨t, pa, sa⟩ := ha
  exact ⟨_, pe_callTy hc hg hm hv pa hn hdb he hpl, snd_call hr sa⟩
end
end VL

namespace VL
open PySem PySem.Spec PyProof.Rows L2

/-! ## statements -/
inductive Out where
  | nx (env : VEnv) | rt (r : RV) | bk (env : VEnv) | ct (env : VEnv)
  | ex (c : Nat) (fs : List (Str × PyData)) (env : VEnv)
  | no
def Out.then : Out → (VEnv → Out) → Out
  | .nx env, f => f env
  | o, _ => o
@[simp] theorem Out.then_nx (env f) : (Out.nx env).then f = f env := rfl
@[simp] theorem Out.then_rt (r f) : (Out.rt r).then f = .rt r := rfl
@[simp] theorem Out.then_bk (r f) : (Out.bk r).then f = .bk r := rfl
@[simp] theorem Out.then_ct (r f) : (Out.ct r).then f = .ct r := rfl
@[simp] theorem Out.then_ex (c fs e f) : (Out.ex c fs e).then f = .ex c fs e := rfl
@[simp] theorem Out.then_no (f) : Out.no.then f = .no := rfl
def Rs.out {α : Type} (m : Rs α) (env : VEnv) (f : α → Out) : Out := match m with
  | .ok a => f a
  | .ex c fs => .ex c fs env
  | .no => .no
@[simp] theorem Rs.out_ok {α : Type} (a : α) (env f) : (Rs.ok a).out env f = f a := rfl
@[simp] theorem Rs.out_ex {α : Type} (c fs env) (f : α → Out) : (Rs.ex c fs : Rs α).out env f = .ex c fs env := rfl
@[simp] theorem Rs.out_no {α : Type} (env) (f : α → Out) : (Rs.no : Rs α).out env f = .no := rfl

section
variable (K : PySem.W.Frag) (ca : Nat → Addr) (W : WX) (B : Base) (F0 : Hp)
def PostS (D : Ends) : Out → Prop
  | .nx env => ∀ F σ H, Same F0 F → StOk K B F env σ H → D.nx σ H
  | .bk env => ∀ F σ H, Same F0 F → StOk K B F env σ H → D.bk σ H
  | .ct env => ∀ F σ H, Same F0 F → StOk K B F env σ H → D.ct σ H
  | .rt r => ∀ F H v, Grow B.F B.H F H → RVok K B.H F H v r → D.rt v H
  | .ex c fs env => ∀ F σ H cls dx, Same F0 F → StOk K B F env σ H → ExOk K ca F H cls dx c fs → W cls dx σ H
  | .no => False
end
theorem PostS.mono {K : PySem.W.Frag} {ca : Nat → Addr} {W : WX} {B : Base} {F0 F1 : Hp} {D : Ends} {o : Out} (e : Same F0 F1) (h : PostS K ca W B F0 D o) : PostS K ca W B F1 D o := by
  cases o with
  | nx env => exact fun F σ H s st => h F σ H (e.trans s) st
  | bk env => exact fun F σ H s st => h F σ H (e.trans s) st
  | ct env => exact fun F σ H s st => h F σ H (e.trans s) st
  | rt r => exact h
  | ex c fs env => exact fun F σ H cls dx s st => h F σ H cls dx (e.trans s) st
  | no => exact h
def SndS (K : PySem.W.Frag) (ca : Nat → Addr) (W : WX) (t : TS) (f : VEnv → Out) : Prop := ∀ B F env σ H D, StOk K B F env σ H → PostS K ca W B F D (f env) → t D σ H
structure VS (ca : Nat → Addr) (W : WX) (X : Cx) (st : Stmt) (f : VEnv → Out) : Prop where
  ex : ∃ t, PS X st t ∧ SndS X.K ca W t f
structure VSs (ca : Nat → Addr) (W : WX) (X : Cx) (st : List Stmt) (f : VEnv → Out) : Prop where
  ex : ∃ t, PSs X st t ∧ SndS X.K ca W t f

section
variable {K : PySem.W.Frag} {ca : Nat → Addr} {W : WX} {B : Base} {F H : Hp} {env : VEnv} {σ : L2.St}
theorem exOut {c : Nat} {fs : List (Str × PyData)} {D : Ends} (st : StOk K B F env σ H) (h : PostS K ca W B F D (.ex c fs env)) : PostX K ca W σ F H c fs :=
  fun F' H' cls dx g e => h F' σ H' cls dx g.ff (st.grow g) e
theorem outE {t : TE} {f : VEnv → Rs RV} {Q : VK} {D : Ends} {k : RV → Out} (s : SndE K ca W t f) (st : StOk K B F env σ H)
    (post : PostS K ca W B F D ((f env).out env k)) (h : ∀ r F1 H1 v, PostS K ca W B F1 D (k r) → Grow F H F1 H1 → RVok K H F1 H1 v r → Q v H1) : t σ H Q := by
  refine s B F env σ H Q st ?_
  cases e : f env with
  | ok r => rw [e] at post; exact fun F' H' v g q => h r F' H' v (PostS.mono g.ff post) g q
  | ex c fs => rw [e] at post; exact exOut st post
  | no => rw [e] at post; exact post
theorem outT {t : TT} {f : VEnv → Rs Bool} {Q : Bool → Hp → Prop} {D : Ends} {k : Bool → Out} (s : SndT K ca W t f) (st : StOk K B F env σ H)
    (post : PostS K ca W B F D ((f env).out env k)) (h : ∀ r F1 H1, PostS K ca W B F1 D (k r) → Grow F H F1 H1 → Q r H1) : t σ H Q := by
  refine s B F env σ H Q st ?_
  cases e : f env with
  | ok r => rw [e] at post; exact fun F' H' g => h r F' H' (PostS.mono g.ff post) g
  | ex c fs => rw [e] at post; exact exOut st post
  | no => rw [e] at post; exact post
/-- a slot gets a value of its own or plain data -/
theorem StOk.put (st : StOk K B F env σ H) {i : Nat} (hi : i < env.length) {v : V} {r : RV} (q : RVok K B.H F H v r) (hb : r.isB = false)
    (hd : r.own = true → ∀ (j : Nat) (r' : RV) (p : Addr), j ≠ i → env[j]? = some (some r') → r'.own = true → v = .ref p → σ[j]? ≠ some (some (.ref p))) : StOk K B F (env.set i (some r)) (σ.set i (some v)) H := by
  have hi' : i < σ.length := by rw [← st.len]; exact hi
  refine ⟨st.gr, by simp [st.len], fun j r1 e => ?_, fun j r1 p e o s => ?_, fun j k r1 r2 p jk e1 e2 o1 o2 s1 s2 => ?_⟩
  · by_cases h : i = j
    · subst h
      rw [List.getElem?_set_self hi] at e
      cases e
      exact ⟨v, by rw [List.getElem?_set_self hi'], q⟩
    · rw [List.getElem?_set_ne h] at e
      obtain ⟨w, e1, q1⟩ := st.sl j r1 e
      exact ⟨w, by rw [List.getElem?_set_ne h]; exact e1, q1⟩
  · by_cases h : i = j
    · subst h
      rw [List.getElem?_set_self hi] at e
      cases e
      rw [hb] at o; cases o
    · rw [List.getElem?_set_ne h] at e s
      exact st.bo j r1 p e o s
  · by_cases h1 : i = j
    · subst h1
      rw [List.getElem?_set_self hi] at e1
      rw [List.getElem?_set_self hi'] at s1
      rw [List.getElem?_set_ne jk] at e2 s2
      cases e1
      exact hd o1 k r2 p (Ne.symm jk) e2 o2 (Option.some.inj (Option.some.inj s1)) s2
    · rw [List.getElem?_set_ne h1] at e1 s1
      by_cases h2 : i = k
      · subst h2
        rw [List.getElem?_set_self hi] at e2
        rw [List.getElem?_set_self hi'] at s2
        cases e2
        exact hd o2 j r1 p (Ne.symm h1) e1 o1 (Option.some.inj (Option.some.inj s2)) s1
      · rw [List.getElem?_set_ne h2] at e2 s2
        exact st.dis j k r1 r2 p jk e1 e2 o1 o2 s1 s2
/-- a value that came out of an expression over this state -/
theorem StOk.putE {F1 H1 : Hp} (st : StOk K B F env σ H) (g : Grow F H F1 H1) {i : Nat} (hi : i < env.length) {v : V} {r : RV} (q : RVok K H F1 H1 v r) (hb : r.isB = false) : StOk K B F1 (env.set i (some r)) (σ.set i (some v)) H1 := by
  refine (st.grow g).put hi (q.older st.gr.hh) hb fun o j r' p ji e o' ev s => ?_
  obtain ⟨w, e1, q1⟩ := st.sl j r' e
  rw [s] at e1
  cases e1
  have hp : ∃ ob, H p = some ob := by
    cases r' with
    | ol xs => obtain ⟨a, vs, z, _, _, hp, _⟩ := q1; cases z; exact ⟨_, hp⟩
    | od xs => obtain ⟨a, vs, z, _, _, hp, _⟩ := q1; cases z; exact ⟨_, hp⟩
    | ot xs => obtain ⟨a, vs, z, _, _, hp, _⟩ := q1; cases z; exact ⟨_, hp⟩
    | _ => cases o'
  obtain ⟨ob, hp⟩ := hp
  have hn : H p = none := by
    cases r with
    | ol xs => obtain ⟨a, vs, z, n, _⟩ := q; rw [ev] at z; cases z; exact n
    | od xs => obtain ⟨a, vs, z, n, _⟩ := q; rw [ev] at z; cases z; exact n
    | ot xs => obtain ⟨a, vs, z, n, _⟩ := q; rw [ev] at z; cases z; exact n
    | _ => cases o
  rw [hn] at hp; cases hp
/-- a slot forgotten -/
theorem StOk.drop (st : StOk K B F env σ H) (i : Nat) : StOk K B F (env.set i none) (σ.set i none) H := by
  refine ⟨st.gr, by simp [st.len], fun j r1 e => ?_, fun j r1 p e o s => ?_, fun j k r1 r2 p jk e1 e2 o1 o2 s1 s2 => ?_⟩
  · by_cases h : i = j
    · subst h
      by_cases hi : i < env.length
      · rw [List.getElem?_set_self hi] at e; cases e
      · rw [List.getElem?_eq_none (by simpa using hi)] at e; cases e
    · rw [List.getElem?_set_ne h] at e
      obtain ⟨w, e1, q1⟩ := st.sl j r1 e
      exact ⟨w, by rw [List.getElem?_set_ne h]; exact e1, q1⟩
  · by_cases h : i = j
    · subst h
      by_cases hi : i < env.length
      · rw [List.getElem?_set_self hi] at e; cases e
      · rw [List.getElem?_eq_none (by simpa using hi)] at e; cases e
    · rw [List.getElem?_set_ne h] at e s
      exact st.bo j r1 p e o s
  · by_cases h1 : i = j
    · subst h1
      by_cases hi : i < env.length
      · rw [List.getElem?_set_self hi] at e1; cases e1
      · rw [List.getElem?_eq_none (by simpa using hi)] at e1; cases e1
    · by_cases h2 : i = k
      · subst h2
        by_cases hi : i < env.length
        · rw [List.getElem?_set_self hi] at e2; cases e2
        · rw [List.getElem?_eq_none (by simpa using hi)] at e2; cases e2
      · rw [List.getElem?_set_ne h1] at e1 s1
        rw [List.getElem?_set_ne h2] at e2 s2
        exact st.dis j k r1 r2 p jk e1 e2 o1 o2 s1 s2
end

/-! ### freezing a slot's list -/
def fzE (i : Nat) (env : VEnv) : VEnv := match env[i]? with
  | some (some (.ol xs)) => env.set i (some (.d (.list xs)))
  | _ => env
theorem StOk.fz {K : PySem.W.Frag} {B : Base} {F H : Hp} {env : VEnv} {σ : L2.St} (st : StOk K B F env σ H) (i : Nat) : ∃ F', Same F F' ∧ StOk K B F' (fzE i env) σ H := by
  unfold fzE
  split
  · rename_i xs e
    obtain ⟨v, e1, p, vs, rfl, n0, f, hp, q⟩ := st.sl i _ e
    have hi : i < env.length := (List.getElem?_eq_some_iff.mp e).1
    have s1 : Same F (upd F p (.lst vs)) := fun b u k => by rw [upd_ne (ne_of_none k f)]; exact k
    refine ⟨upd F p (.lst vs), s1, st.gr.freeze n0 f hp, by simpa using st.len, fun j r e2 => ?_, fun j r a e2 o z => ?_, fun j k r1 r2 a jk q1 q2 o1 o2 z1 z2 => ?_⟩
    · by_cases h : i = j
      · subst h
        rw [List.getElem?_set_self hi] at e2
        cases e2
        exact ⟨_, e1, .lst upd_same (DqA.mono s1 _ _ q)⟩
      · rw [List.getElem?_set_ne h] at e2
        obtain ⟨w, e3, q3⟩ := st.sl j r e2
        refine ⟨w, e3, ?_⟩
        have ne : ∀ a, r.own = true → w = .ref a → a ≠ p := fun a o z y => by
          subst y; subst z
          exact st.dis i j (.ol xs) r a h e e2 rfl o e1 e3
        cases r with
        | d x => exact Dq.mono s1 x w q3
        | ol ys => obtain ⟨a, ws, z, n, f2, h2, q4⟩ := q3; exact ⟨a, ws, z, n, by rw [upd_ne (ne a rfl z)]; exact f2, h2, DqA.mono s1 _ _ q4⟩
        | od ys => obtain ⟨a, ws, z, n, f2, h2, q4⟩ := q3; exact ⟨a, ws, z, n, by rw [upd_ne (ne a rfl z)]; exact f2, h2, q4.mono s1⟩
        | ot ys => obtain ⟨a, ws, z, n, f2, h2, q4⟩ := q3; exact ⟨a, ws, z, n, by rw [upd_ne (ne a rfl z)]; exact f2, h2, q4.mono s1⟩
        | sc ns => obtain ⟨a, z, q4⟩ := q3; exact ⟨a, z, s1.seq q4⟩
        | bl ys => obtain ⟨a, ws, z, h2, q4⟩ := q3; exact ⟨a, ws, z, h2, DqA.mono s1 _ _ q4⟩
        | bd ys => obtain ⟨a, ws, z, h2, q4⟩ := q3; exact ⟨a, ws, z, h2, q4.mono s1⟩
        | bt ys => obtain ⟨a, ws, z, h2, q4⟩ := q3; exact ⟨a, ws, z, h2, q4.mono s1⟩
        | xo a dd c fs => obtain ⟨z, ws, h2, q4⟩ := q3; exact ⟨z, ws, h2, q4.mono s1⟩
    · by_cases h : i = j
      · subst h; rw [List.getElem?_set_self hi] at e2; cases e2; cases o
      · rw [List.getElem?_set_ne h] at e2
        exact st.bo j r a e2 o z
    · by_cases h1 : i = j
      · subst h1; rw [List.getElem?_set_self hi] at q1; cases q1; cases o1
      · by_cases h2 : i = k
        · subst h2; rw [List.getElem?_set_self hi] at q2; cases q2; cases o2
        · rw [List.getElem?_set_ne h1] at q1
          rw [List.getElem?_set_ne h2] at q2
          exact st.dis j k r1 r2 a jk q1 q2 o1 o2 z1 z2
  · exact ⟨F, Same.refl _, st⟩
end VL

namespace VL
open PySem PySem.Spec PyProof.Rows L2

section
variable {ca : Nat → Addr} {W : WX} {X : Cx} {a b e : Expr} {es : List Expr} {fa fb : VEnv → Rs RV} {pos : Pos} {st : Stmt} {rest : List Stmt} {f g : VEnv → Out}
/-! ### blocks -/
def sNil : VEnv → Out := fun env => .nx env
def sSeq (f g : VEnv → Out) : VEnv → Out := fun env => (f env).then g
theorem vss_nil : VSs ca W X [] sNil := ⟨_, pss_nil, fun _ _ _ _ _ _ st p => p _ _ _ (Same.refl _) st⟩
theorem vss_cons (h1 : VS ca W X st f) (h2 : VSs ca W X rest g) : VSs ca W X (st :: rest) (sSeq f g) := by
  obtain ⟨t, p1, s1⟩ := h1
  obtain ⟨u, p2, s2⟩ := h2
  refine ⟨_, pss_cons p1 p2, fun B F env σ H D st p => ?_⟩
  show t { D with nx := u D } σ H
  refine s1 B F env σ H _ st ?_
  unfold sSeq at p
  cases e : f env with
  | nx env' => rw [e] at p; exact fun F' σ' H' s st' => s2 B F' env' σ' H' D st' (PostS.mono s p)
  | bk env' => rw [e] at p; exact p
  | ct env' => rw [e] at p; exact p
  | rt r => rw [e] at p; exact p
  | ex c fs env' => rw [e] at p; exact p
  | no => rw [e] at p; exact p
theorem vss_one (h1 : VS ca W X st f) : VSs ca W X [st] f := by
  obtain ⟨t, p1, s1⟩ := h1
  exact ⟨_, pss_one p1, s1⟩
def sFz (i : Nat) (f : VEnv → Out) : VEnv → Out := fun env => f (fzE i env)
theorem vs_fz (i : Nat) (h : VS ca W X st f) : VS ca W X st (sFz i f) := by
  obtain ⟨t, p1, s1⟩ := h
  refine ⟨t, p1, fun B F env σ H D st p => ?_⟩
  obtain ⟨F', s, st'⟩ := st.fz i
  exact s1 B F' (fzE i env) σ H D st' (PostS.mono s p)
/-! ### small statements -/
def sBk : VEnv → Out := fun env => .bk env
def sCt : VEnv → Out := fun env => .ct env
theorem vs_pass : VS ca W X (.Pass pos) sNil := ⟨_, ps_pass, fun _ _ _ _ _ _ st p => p _ _ _ (Same.refl _) st⟩
theorem vs_break : VS ca W X (.Break pos) sBk := ⟨_, ps_break, fun _ _ _ _ _ _ st p => p _ _ _ (Same.refl _) st⟩
theorem vs_continue : VS ca W X (.Continue pos) sCt := ⟨_, ps_continue, fun _ _ _ _ _ _ st p => p _ _ _ (Same.refl _) st⟩
/-- no borrowed thing is handed on -/
def RV.nb : RV → Rs RV
  | .bl _ | .bd _ | .bt _ => .no
  | r => .ok r
def sRet (fe : VEnv → Rs RV) : VEnv → Out := fun env => (fe env).out env fun r => (r.nb).out env .rt
theorem vs_ret (he : VE ca W X e fa) : VS ca W X (.Return (some e) pos) (sRet fa) := by
  obtain ⟨t, pe, se⟩ := he
  refine ⟨_, ps_ret pe, fun B F env σ H D st p => ?_⟩
  refine outE (t := t) (Q := D.rt) se st p fun r F1 H1 v p1 g q => ?_
  cases r with
  | bl _ => exact p1.elim
  | bd _ => exact p1.elim
  | bt _ => exact p1.elim
  | _ => exact p1 F1 H1 v (st.gr.trans g) (q.older st.gr.hh)
/-- return x, x a list or dict of the def's own -/
def sRetV (i : Nat) : VEnv → Out := fun env => match env[i]? with
  | some (some r) => (r.nb).out env .rt
  | _ => .no
theorem vs_retv (i : Nat) {x : Str} {p' : Pos} (hN : X.N[i]? = some x := by rfl) (hv : Vis X.env.scope x := by first | exact Or.inl rfl | exact Or.inr (Or.inl rfl) | exact Or.inr (Or.inr rfl)) (hd : (x == ("__debug__" : Str)) = false := by decide)
    (hcd : (x == ("__classdict__" : Str)) = false := by decide) : VS ca W X (.Return (some (.Name x p')) pos) (sRetV i) := by
  refine ⟨_, ps_ret (pe_var hN hv hd hcd), fun B F env σ H D st p => ?_⟩
  unfold sRetV at p
  split at p
  · rename_i r e
    obtain ⟨v, e1, h⟩ := st.sl i r e
    refine ⟨v, e1, ?_⟩
    cases r with
    | bl _ => exact p.elim
    | bd _ => exact p.elim
    | bt _ => exact p.elim
    | _ => exact p F H v st.gr h
  · exact p.elim
def sRetN : VEnv → Out := fun _ => .rt (.d .none)
theorem vs_retN : VS ca W X (.Return none pos) sRetN := ⟨_, ps_retN, fun _ _ _ _ _ _ st p => p _ _ _ st.gr .non⟩
def sDrop (fe : VEnv → Rs RV) : VEnv → Out := fun env => (fe env).out env fun _ => .nx env
theorem vs_expr (he : VE ca W X e fa) (hs : swapsWith e none pos.line X.env = pure false := by rfl) : VS ca W X (.Expr e pos) (sDrop fa) := by
  obtain ⟨t, pe, se⟩ := he
  refine ⟨_, ps_expr pe hs, fun B F env σ H D st p => ?_⟩
  show t σ H fun _ H1 => D.nx σ H1
  exact outE se st p fun r F1 H1 v p1 g q => p1 F1 σ H1 (Same.refl _) (st.grow g)
/-- a name gets a value -/
def putS (i : Nat) (r : RV) (env : VEnv) : Out := (r.nb).out env fun r => if i < env.length then .nx (env.set i (some r)) else .no
def sSet (i : Nat) (fe : VEnv → Rs RV) : VEnv → Out := fun env => (fe env).out env fun r => putS i r env
theorem snd_put {K : PySem.W.Frag} {B : Base} {F H F1 H1 : Hp} {env : VEnv} {σ : L2.St} {D : Ends} {i : Nat} {r : RV} {v : V} (st : StOk K B F env σ H) (g : Grow F H F1 H1) (q : RVok K H F1 H1 v r) (p : PostS K ca W B F1 D (putS i r env)) : D.nx (σ.set i (some v)) H1 := by
  unfold putS at p
  have go : ∀ r' : RV, r.nb = .ok r' → r' = r := fun r' e => by cases r <;> cases e <;> rfl
  cases e : r.nb with
  | ok r' =>
    rw [e] at p
    cases go r' e
    simp only [Rs.out_ok] at p
    split at p
    · rename_i hi
      exact p F1 _ H1 (Same.refl _) (st.putE g hi q (by cases r <;> first | rfl | cases e))
    · exact p.elim
  | ex c fs => exact absurd e (by cases r <;> simp [RV.nb])
  | no => rw [e] at p; exact p.elim
theorem vs_set {i : Nat} {x : Str} {pos' : Pos} (hN : X.N.Nodup) (hi : X.N[i]? = some x) (hx : Loc X.env.scope x) (he : VE ca W X e fa) (hs : swapsWith e (some (.Name x pos')) pos.line X.env = pure false := by rfl) (hf : X.fn x = true ∨ X.env.scope.names.lookup x = some .local := by first | exact .inl rfl | exact .inr rfl | assumption) :
    VS ca W X (.Assign [.Name x pos'] e pos) (sSet i fa) := by
  obtain ⟨t, pe, se⟩ := he
  refine ⟨_, ps_set hN hi hx pe hs hf, fun B F env σ H D st p => ?_⟩
  show t σ H fun x H1 => D.nx (σ.set i (some x)) H1
  exact outE se st p fun r F1 H1 v p1 g q => snd_put st g q p1
def sIf (c : VEnv → Rs Bool) (f g : VEnv → Out) : VEnv → Out := fun env => (c env).out env fun b => if b = true then f env else g env
theorem vs_if {c : Expr} {ss tt : List Stmt} {tc : VEnv → Rs Bool} (hc : VT ca W X c tc) (ha : VSs ca W X ss f) (hb : VSs ca W X tt g) : VS ca W X (.If c ss tt pos) (sIf tc f g) := by
  obtain ⟨t, pe, se⟩ := hc
  obtain ⟨ta, pa, sa⟩ := ha
  obtain ⟨tb, pb, sb⟩ := hb
  refine ⟨_, ps_if pe pa pb, fun B F env σ H D st p => ?_⟩
  show t σ H fun b H1 => if b = true then ta D σ H1 else tb D σ H1
  refine outT se st p fun b F1 H1 p1 g => ?_
  cases b with
  | true => rw [if_pos rfl]; rw [if_pos rfl] at p1; exact sa B F1 env σ H1 D (st.grow g) p1
  | false => rw [if_neg Bool.false_ne_true]; rw [if_neg Bool.false_ne_true] at p1; exact sb B F1 env σ H1 D (st.grow g) p1

/-! ### while -/
def loopW (c : VEnv → Rs Bool) (f : VEnv → Out) : Nat → VEnv → Out
  | 0, _ => .no
  | n + 1, env => (c env).out env fun b => if b = true then
      (match f env with
        | .nx e => loopW c f n e
        | .ct e => loopW c f n e
        | .bk e => .nx e
        | o => o) else .nx env
def sWhile (n : Nat) (c : VEnv → Rs Bool) (f : VEnv → Out) : VEnv → Out := loopW c f n
theorem vs_while {c : Expr} {body : List Stmt} {tc : VEnv → Rs Bool} (n : Nat) (hp : PassesOwn (model X.prog X.w) X.A X.env X.xe) (hc : VT ca W X c tc) (hb : VSs ca W X body f) : VS ca W X (.While c body [] pos) (sWhile n tc f) := by
  obtain ⟨t, pe, se⟩ := hc
  obtain ⟨tb, pb, sb⟩ := hb
  refine ⟨_, ps_while hp pe pb, fun B F env σ H D st p => ?_⟩
  refine ⟨fun m σ H => ∃ F' env', Same F F' ∧ StOk X.K B F' env' σ H ∧ PostS X.K ca W B F' D (loopW tc f m env'), ⟨n, F, env, Same.refl _, st, p⟩, ?_⟩
  rintro m σ1 H1 ⟨F1, env1, s1, st1, p1⟩
  cases m with
  | zero => exact p1.elim
  | succ m =>
    unfold loopW at p1
    refine outT se st1 p1 fun b F2 H2 p2 g => ?_
    cases b with
    | false => rw [if_neg Bool.false_ne_true]; rw [if_neg Bool.false_ne_true] at p2; exact p2 F2 σ1 H2 (Same.refl _) (st1.grow g)
    | true =>
      rw [if_pos rfl]; rw [if_pos rfl] at p2
      refine ⟨fun σ' H' => ∃ F' env', Same F F' ∧ StOk X.K B F' env' σ' H' ∧ PostS X.K ca W B F' D (loopW tc f m env'), fun σ' H' z => ⟨m, Nat.lt_succ_self m, z⟩, ?_⟩
      refine sb B F2 env1 σ1 H2 _ (st1.grow g) ?_
      cases e : f env1 with
      | nx env' => rw [e] at p2; exact fun F' σ' H' s st' => ⟨F', env', (s1.trans g.ff).trans s, st', PostS.mono s p2⟩
      | ct env' => rw [e] at p2; exact fun F' σ' H' s st' => ⟨F', env', (s1.trans g.ff).trans s, st', PostS.mono s p2⟩
      | bk env' => rw [e] at p2; exact p2
      | rt r => rw [e] at p2; exact p2
      | ex c fs env' => rw [e] at p2; exact p2
      | no => rw [e] at p2; exact p2

/-! ### what is walked -/
structure JWalk (J : It) (G : Hp) (vs : List V) : Prop where
  go : ∀ i H, Same G H → i < vs.length → J.go i H
  yld : ∀ i H x H', Same G H → J.yld i H x H' → i < vs.length → H' = H ∧ vs[i]? = some x
  stop : ∀ H, Same G H → J.stop vs.length H
theorem jw_list {K : PySem.W.Frag} {G : Hp} {a : Addr} {vs : List V} (h : SqL K G a vs) : JWalk (Itl K a) G vs where
  go := fun i H s hi => ⟨vs, vs[i], s.seq h, by simp [hi]⟩
  yld := fun i H x H' s y hi => ⟨y.1, y.2 vs (s.seq h)⟩
  stop := fun H s => ⟨vs, s.seq h, Nat.le_refl _⟩
theorem jw_tup {K : PySem.W.Frag} {G : Hp} {a : Addr} {vs : List V} (h : SqT K G a vs) : JWalk (Itt K a) G vs where
  go := fun i H s hi => ⟨vs, vs[i], same_seqT s h, by simp [hi]⟩
  yld := fun i H x H' s y hi => ⟨y.1, y.2 vs (same_seqT s h)⟩
  stop := fun H s => ⟨vs, same_seqT s h, Nat.le_refl _⟩
def rngL (lo : Int) (n : Nat) : List PyData := (List.range n).map fun i : Nat => .int (lo + (i : Int))
theorem jw_rng {G : Hp} (lo : Int) (n : Nat) : JWalk (Itr lo n) G ((List.range n).map fun i : Nat => V.int (lo + (i : Int))) where
  go := fun i H s hi => by
    have hi' : i < n := by simpa using hi
    exact hi'
  yld := fun i H x H' s y hi => by
    have hi' : i < n := by simpa using hi
    refine ⟨y.1, ?_⟩
    rw [y.2, List.getElem?_map, List.getElem?_range hi']
    rfl
  stop := fun H s => by show n ≤ _; simp
def PostI (K : PySem.W.Frag) (ca : Nat → Addr) (W : WX) (σ : L2.St) (F H : Hp) (R : It → Hp → Prop) : Rs (List PyData) → Prop
  | .ok xs => ∀ J F' H' vs, Grow F H F' H' → DqA K F' vs xs → JWalk J F' vs → R J H'
  | .ex c fs => PostX K ca W σ F H c fs
  | .no => False
def SndI (K : PySem.W.Frag) (ca : Nat → Addr) (W : WX) (t : TI) (f : VEnv → Rs (List PyData)) : Prop := ∀ B F env σ H R, StOk K B F env σ H → PostI K ca W σ F H R (f env) → t σ H R
structure VI (ca : Nat → Addr) (W : WX) (X : Cx) (tg iter : Expr) (f : VEnv → Rs (List PyData)) : Prop where
  ex : ∃ t, PI X tg iter t ∧ SndI X.K ca W t f
/-- for a comprehension: a borrowed list, too -/
def PostJ (K : PySem.W.Frag) (ca : Nat → Addr) (W : WX) (σ : L2.St) (F H : Hp) (R : It → Hp → Prop) : Rs (List PyData) → Prop
  | .ok xs => ∀ J F' H' vs, Grow F H F' H' → DqA K F' vs xs → JWalk J H' vs → R J H'
  | .ex c fs => PostX K ca W σ F H c fs
  | .no => False
def SndJ (K : PySem.W.Frag) (ca : Nat → Addr) (W : WX) (t : TI) (f : VEnv → Rs (List PyData)) : Prop := ∀ B F env σ H R, StOk K B F env σ H → PostJ K ca W σ F H R (f env) → t σ H R
structure VJ (ca : Nat → Addr) (W : WX) (X : Cx) (tg iter : Expr) (f : VEnv → Rs (List PyData)) : Prop where
  ex : ∃ t, PI X tg iter t ∧ SndJ X.K ca W t f
theorem JWalk.up {J : It} {G G' : Hp} {vs : List V} (h : JWalk J G vs) (s : Same G G') : JWalk J G' vs :=
  ⟨fun i H q => h.go i H (s.trans q), fun i H x H' q => h.yld i H x H' (s.trans q), fun H q => h.stop H (s.trans q)⟩
theorem VI.vj {tg iter : Expr} {f : VEnv → Rs (List PyData)} (h : VI ca W X tg iter f) : VJ ca W X tg iter f := by
  obtain ⟨t, p, s⟩ := h
  refine ⟨t, p, fun B F env σ H R st q => s B F env σ H R st ?_⟩
  cases e : f env with
  | ok xs => rw [e] at q; exact fun J F' H' vs g d j => q J F' H' vs g d (j.up g.cfg.sub)
  | ex c fs => rw [e] at q; exact q
  | no => rw [e] at q; exact q
def gL : RV → Rs (List PyData)
  | .d (.list xs) => .ok xs
  | .ol xs => .ok xs
  | .sc ns => .ok (ns.map .int)
  | _ => .no
def gT : RV → Rs (List PyData)
  | .d (.tuple xs) => .ok xs
  | _ => .no
def gLb : RV → Rs (List PyData)
  | .bl xs => .ok xs
  | r => gL r
def iL (fe : VEnv → Rs RV) : VEnv → Rs (List PyData) := fun env => (fe env).bind gL
def iT (fe : VEnv → Rs RV) : VEnv → Rs (List PyData) := fun env => (fe env).bind gT
def iLb (fe : VEnv → Rs RV) : VEnv → Rs (List PyData) := fun env => (fe env).bind gLb
theorem vi_list {tg : Expr} (h : VE ca W X e fa) : VI ca W X tg e (iL fa) := by
  obtain ⟨t, p, s⟩ := h
  refine ⟨_, pi_list p, fun B F env σ H R st q => ?_⟩
  show t σ H fun x H1 => ∃ a, x = .ref a ∧ (∃ xs, SqL X.K H1 a xs) ∧ R (Itl X.K a) H1
  refine seqE (PostI X.K ca W σ F H R) s st q (fun _ _ h => h) (fun h => h) fun r F1 H1 v p1 g1 q1 => ?_
  cases r with
  | d x =>
    cases x with
    | list xs =>
      cases q1 with
      | lst h1 h2 => exact ⟨_, rfl, ⟨_, SqL.of (g1.cfg.sub _ _ h1)⟩, p1 _ F1 H1 _ g1 h2 (jw_list (SqL.of h1))⟩
    | _ => exact p1.elim
  | ol xs =>
    obtain ⟨p, vs, rfl, n0, f, hp, q2⟩ := q1
    have g2 := g1.freeze n0 f hp
    have s2 : Same F1 (upd F1 p (.lst vs)) := fun b u k => by rw [upd_ne (ne_of_none k f)]; exact k
    exact ⟨p, rfl, ⟨_, SqL.of hp⟩, p1 _ _ H1 vs g2 (DqA.mono s2 _ _ q2) (jw_list (SqL.of upd_same))⟩
  | sc ns =>
    obtain ⟨a, rfl, q2⟩ := q1
    exact ⟨a, rfl, ⟨_, g1.cfg.sub.seq q2⟩, p1 _ F1 H1 _ g1 (DqA.of_ints ns) (jw_list q2)⟩
  | _ => exact p1.elim
theorem vi_tup {tg : Expr} (h : VE ca W X e fa) : VI ca W X tg e (iT fa) := by
  obtain ⟨t, p, s⟩ := h
  refine ⟨_, pi_tup p, fun B F env σ H R st q => ?_⟩
  show t σ H fun x H1 => ∃ a, x = .ref a ∧ (∃ xs, SqT X.K H1 a xs) ∧ R (Itt X.K a) H1
  refine seqE (PostI X.K ca W σ F H R) s st q (fun _ _ h => h) (fun h => h) fun r F1 H1 v p1 g1 q1 => ?_
  cases r with
  | d x =>
    cases x with
    | tuple xs =>
      cases q1 with
      | tup h1 h2 => exact ⟨_, rfl, ⟨_, same_seqT g1.cfg.sub h1⟩, p1 _ F1 H1 _ g1 h2 (jw_tup h1)⟩
    | _ => exact p1.elim
  | _ => exact p1.elim
theorem vj_list {tg : Expr} (h : VE ca W X e fa) : VJ ca W X tg e (iLb fa) := by
  obtain ⟨t, p, s⟩ := h
  refine ⟨_, pi_list p, fun B F env σ H R st q => ?_⟩
  show t σ H fun x H1 => ∃ a, x = .ref a ∧ (∃ xs, SqL X.K H1 a xs) ∧ R (Itl X.K a) H1
  refine seqE (PostJ X.K ca W σ F H R) s st q (fun _ _ h => h) (fun h => h) fun r F1 H1 v p1 g1 q1 => ?_
  cases r with
  | d x =>
    cases x with
    | list xs =>
      cases q1 with
      | lst h1 h2 => exact ⟨_, rfl, ⟨_, SqL.of (g1.cfg.sub _ _ h1)⟩, p1 _ F1 H1 _ g1 h2 (jw_list (SqL.of (g1.cfg.sub _ _ h1)))⟩
    | _ => exact p1.elim
  | ol xs =>
    obtain ⟨p, vs, rfl, n0, f, hp, q2⟩ := q1
    exact ⟨p, rfl, ⟨_, SqL.of hp⟩, p1 _ _ H1 vs g1 q2 (jw_list (SqL.of hp))⟩
  | bl xs =>
    obtain ⟨p, vs, rfl, hp, q2⟩ := q1
    exact ⟨p, rfl, ⟨_, SqL.of hp⟩, p1 _ _ H1 vs g1 q2 (jw_list (SqL.of hp))⟩
  | sc ns =>
    obtain ⟨a, rfl, q2⟩ := q1
    exact ⟨a, rfl, ⟨_, g1.cfg.sub.seq q2⟩, p1 _ F1 H1 _ g1 (DqA.of_ints ns) (jw_list (g1.cfg.sub.seq q2))⟩
  | _ => exact p1.elim
theorem vj_tup {tg : Expr} (h : VE ca W X e fa) : VJ ca W X tg e (iT fa) := (vi_tup h).vj
theorem DqA.rng {K : PySem.W.Frag} {F : Hp} (lo : Int) (n : Nat) : DqA K F ((List.range n).map fun i : Nat => V.int (lo + (i : Int))) (rngL lo n) := by
  have := DqA.of_ints (K := K) (F := F) ((List.range n).map fun i : Nat => lo + (i : Int))
  rw [List.map_map, List.map_map] at this
  exact this
def gR1 : List RV → Rs (List PyData)
  | [.d (.int j)] => if j.natAbs ≤ 1000000 then .ok (rngL 0 j.toNat) else .no
  | _ => .no
def gR2 : List RV → Rs (List PyData)
  | [.d (.int i), .d (.int j)] => if i.natAbs ≤ 1000000 ∧ j.natAbs ≤ 1000000 then .ok (rngL i (j - i).toNat) else .no
  | _ => .no
def iR (g : List RV → Rs (List PyData)) (fe : VEnv → Rs (List RV)) : VEnv → Rs (List PyData) := fun env => (fe env).bind g
theorem vi_range1 {tg : Expr} {p pos : Pos} {f : VEnv → Rs (List RV)} (hg : Gl X "range") (hm : X.mg "range" = none) (ha : VA ca W X [a] f) (hs : starEach [a] X.env = [(false, eval a X.env)] := by rfl) : VI ca W X tg (.Call (.Name "range" p) [a] [] pos) (iR gR1 f) := by
  obtain ⟨t, pa, sa⟩ := ha
  refine ⟨_, pi_range1 hg hm pa hs, fun B F env σ H R st q => ?_⟩
  show t σ H fun vs H1 => ∃ j : Int, vs = [.int j] ∧ -(2 ^ 62) ≤ j ∧ j < 2 ^ 62 ∧ R (Itr 0 j.toNat) H1
  refine seqA (PostI X.K ca W σ F H R) sa st q (fun _ _ h => h) (fun h => h) fun rs F1 H1 vs p1 g1 q1 => ?_
  unfold gR1 at p1
  split at p1
  · rename_i j
    split at p1
    · rename_i hj
      cases q1 with
      | cons h1 h2 =>
        cases h2
        cases h1
        exact ⟨j, rfl, by omega, by omega, p1 _ F1 H1 _ g1 (DqA.rng 0 j.toNat) (jw_rng 0 j.toNat)⟩
    · exact p1.elim
  · exact p1.elim
theorem vi_range2 {tg : Expr} {p pos : Pos} {f : VEnv → Rs (List RV)} (hg : Gl X "range") (hm : X.mg "range" = none) (ha : VA ca W X [a, b] f) (hs : starEach [a, b] X.env = [(false, eval a X.env), (false, eval b X.env)] := by rfl) (hs2 : starEach [b] X.env = [(false, eval b X.env)] := by rfl) : VI ca W X tg (.Call (.Name "range" p) [a, b] [] pos) (iR gR2 f) := by
  obtain ⟨t, pa, sa⟩ := ha
  refine ⟨_, pi_range2 hg hm pa hs hs2, fun B F env σ H R st q => ?_⟩
  show t σ H fun vs H1 => ∃ i j : Int, vs = [.int i, .int j] ∧ (-(2 ^ 62) ≤ i ∧ i < 2 ^ 62 ∧ -(2 ^ 62) ≤ j ∧ j < 2 ^ 62) ∧ R (Itr i (j - i).toNat) H1
  refine seqA (PostI X.K ca W σ F H R) sa st q (fun _ _ h => h) (fun h => h) fun rs F1 H1 vs p1 g1 q1 => ?_
  unfold gR2 at p1
  split at p1
  · rename_i i j
    split at p1
    · rename_i hj
      cases q1 with
      | cons h1 h2 =>
        cases h2 with
        | cons h3 h4 =>
          cases h4
          cases h1
          cases h3
          exact ⟨i, j, rfl, by omega, p1 _ F1 H1 _ g1 (DqA.rng i _) (jw_rng i _)⟩
    · exact p1.elim
  · exact p1.elim

/-! ### targets -/
inductive Tg where
  | nm (i : Nat) | tp (is : List Nat)
def tgEs : List Nat → List PyData → VEnv → Option VEnv
  | [], [], env => some env
  | i :: is, x :: xs, env => if i < env.length then tgEs is xs (env.set i (some (.d x))) else none
  | _, _, _ => none
def tgE : Tg → PyData → VEnv → Option VEnv
  | .nm i, x, env => if i < env.length then some (env.set i (some (.d x))) else none
  | .tp is, .tuple xs, env => tgEs is xs env
  | .tp _, _, _ => none
def gNms : List Nat → TGs
  | [] => gNil
  | i :: is => gCons (gName i) (gNms is)
def tgT (K : PySem.W.Frag) : Tg → TG
  | .nm i => gName i
  | .tp is => gTup K is.length (gNms is)
def setAll : List Nat → List V → L2.St → L2.St
  | i :: is, v :: vs, σ => setAll is vs (σ.set i (some v))
  | _, _, σ => σ
theorem StOk.putD {K : PySem.W.Frag} {B : Base} {F H : Hp} {env : VEnv} {σ : L2.St} (st : StOk K B F env σ H) {i : Nat} (hi : i < env.length) {v : V} {x : PyData} (q : Dq K F v x) : StOk K B F (env.set i (some (.d x))) (σ.set i (some v)) H :=
  st.put hi (r := .d x) q rfl fun o => by cases o
theorem snd_tgs {K : PySem.W.Frag} {B : Base} {F H : Hp} : ∀ {is : List Nat} {xs : List PyData} {vs : List V} {env env' : VEnv} {σ : L2.St} {Q : L2.St → Hp → Prop}, StOk K B F env σ H → DqA K F vs xs → tgEs is xs env = some env' → (StOk K B F env' (setAll is vs σ) H → Q (setAll is vs σ) H) → gNms is vs σ H Q
  | [], [], _, env, env', σ, Q, st, q, e, h => by cases q; cases e; exact ⟨rfl, h st⟩
  | [], _ :: _, _, env, env', σ, Q, st, q, e, h => by cases e
  | i :: is, [], _, env, env', σ, Q, st, q, e, h => by cases e
  | i :: is, x :: xs, _, env, env', σ, Q, st, q, e, h => by
    cases q with
    | cons h1 h2 =>
      rename_i v vs
      unfold tgEs at e
      split at e
      · rename_i hi
        exact ⟨v, vs, rfl, snd_tgs (st.putD hi h1) h2 e h⟩
      · cases e
def tgIx : Tg → List Nat
  | .nm i => [i]
  | .tp is => is
def tgSt (tg : Tg) (v : V) (vs : List V) (σ : L2.St) : L2.St := match tg with
  | .nm i => σ.set i (some v)
  | .tp is => setAll is vs σ
theorem snd_tg {K : PySem.W.Frag} {B : Base} {F H : Hp} {tg : Tg} {x : PyData} {v : V} {env env' : VEnv} {σ : L2.St} {Q : L2.St → Hp → Prop} (st : StOk K B F env σ H) (q : Dq K F v x) (e : tgE tg x env = some env') (h : ∀ vs, StOk K B F env' (tgSt tg v vs σ) H → Q (tgSt tg v vs σ) H) : tgT K tg v σ H Q := by
  cases tg with
  | nm i =>
    by_cases hi : i < env.length
    · have e' : some (env.set i (some (.d x))) = some env' := by simpa [tgE, hi] using e
      cases e'
      exact h [] (st.putD hi q)
    · simp [tgE, hi] at e
  | tp is =>
    cases x with
    | tuple xs =>
      cases q with
      | tup h1 h2 =>
        rename_i a vs
        refine ⟨a, vs, rfl, same_seqT st.cfg.sub h1, ?_, snd_tgs st h2 e (h vs)⟩
        rw [h2.length]
        have : ∀ (is : List Nat) (xs : List PyData) (env : VEnv), tgEs is xs env = some env' → xs.length = is.length := by
          intro is
          induction is with
          | nil => intro xs env e; cases xs with
            | nil => rfl
            | cons _ _ => cases e
          | cons i is ih => intro xs env e; cases xs with
            | nil => cases e
            | cons x xs =>
              unfold tgEs at e
              split at e
              · simp [ih xs _ e]
              · cases e
        exact this is xs env e
    | _ => cases e
structure VG (X : Cx) (target : Expr) (tg : Tg) : Prop where
  ex : PG X target (tgT X.K tg)
structure VGs (X : Cx) (es : List Expr) (is : List Nat) : Prop where
  ex : PGs X es (gNms is)
theorem vg_name {i : Nat} {x : Str} (hN : X.N.Nodup) (hi : X.N[i]? = some x) (hx : Loc X.env.scope x) (hf : X.fn x = true ∨ X.env.scope.names.lookup x = some .local := by first | exact .inl rfl | exact .inr rfl | assumption) : VG X (.Name x pos) (.nm i) := ⟨pg_name hN hi hx hf⟩
theorem vgs_nil : VGs X [] [] := ⟨pgs_nil⟩
theorem vgs_cons {i : Nat} {x : Str} {is : List Nat} (hN : X.N.Nodup) (hi : X.N[i]? = some x) (hx : Loc X.env.scope x) (h2 : VGs X es is) (hf : X.fn x = true ∨ X.env.scope.names.lookup x = some .local := by first | exact .inl rfl | exact .inr rfl | assumption)
    (hs : (assignEach (.Name x pos :: es) X.env).map (·.2) = assign (.Name x pos) X.env :: (assignEach es X.env).map (·.2) := by rfl) : VGs X (.Name x pos :: es) (i :: is) := ⟨pgs_cons (pg_name hN hi hx hf) h2.ex hs⟩
theorem vg_tup {k : Nat} {is : List Nat} (hc : X.calm = true) (h : VGs X es is) (hn : (assignEach es X.env).length = is.length := by rfl) (hst : (assignEach es X.env).findIdx? (·.1) = none := by rfl) : VG X (.Tuple es k pos) (.tp is) := ⟨pg_tup hc h.ex hn hst⟩
/-- a, b = e -/
def sUnp (tg : Tg) (fe : VEnv → Rs RV) : VEnv → Out := fun env => (fe env).out env fun r => match r.toD with
  | some x => (match tgE tg x env with | some env' => .nx env' | none => .no)
  | none => .no
theorem vs_unp {tg : Expr} {g : Tg} (he : VE ca W X e fa) (hg : VG X tg g) (hs : swapsWithSole [tg] e pos.line X.env = pure false := by rfl) (hw : swappedStores [tg] e X.env = pure none := by rfl)
    (h1 : (assignEach [tg] X.env).map (·.2) = [assign tg X.env] := by rfl) : VS ca W X (.Assign [tg] e pos) (sUnp g fa) := by
  obtain ⟨t, pe, se⟩ := he
  refine ⟨_, ps_asg pe hg.ex hs hw h1, fun B F env σ H D st p => ?_⟩
  show t σ H fun x H1 => tgT X.K g x σ H1 D.nx
  refine outE se st p fun r F1 H1 v p1 gg q => ?_
  cases e1 : r.toD with
  | none => rw [e1] at p1; exact p1.elim
  | some x =>
    rw [e1] at p1
    obtain ⟨F2, g2, s2, q2⟩ := frz gg (Fz.of q e1)
    simp only at p1
    cases e2 : tgE g x env with
    | none => rw [e2] at p1; exact p1.elim
    | some env' => rw [e2] at p1; exact snd_tg (st.grow g2) q2 e2 fun vs st' => p1 F2 _ H1 s2 st'

/-! ### for -/
def loopF (tg : Tg) (f : VEnv → Out) : List PyData → VEnv → Out
  | [], env => .nx env
  | x :: xs, env => match tgE tg x env with
    | none => .no
    | some e1 => match f e1 with
      | .nx e => loopF tg f xs e
      | .ct e => loopF tg f xs e
      | .bk e => .nx e
      | o => o
def sFor (tg : Tg) (src : VEnv → Rs (List PyData)) (f : VEnv → Out) : VEnv → Out := fun env => (src env).out env fun xs => loopF tg f xs env
theorem drop_cons {α : Type} {xs : List α} {i : Nat} {x : α} (h : xs[i]? = some x) : xs.drop i = x :: xs.drop (i + 1) := by
  obtain ⟨h1, h2⟩ := List.getElem?_eq_some_iff.mp h
  rw [← h2]
  exact List.drop_eq_getElem_cons h1
theorem vs_for {tg iter : Expr} {body : List Stmt} {src : VEnv → Rs (List PyData)} {g : Tg} (hp : PassesOwn (model X.prog X.w) X.A X.env X.xe) (hc : X.calm = true) (hi : VI ca W X tg iter src) (hg : VG X tg g) (hb : VSs ca W X body f)
    (hs : ∀ x, foldedSetIterable iter X.env x = pure x := by intro _; rfl) : VS ca W X (.For tg iter body [] pos) (sFor g src f) := by
  obtain ⟨t, pi, si⟩ := hi
  obtain ⟨tb, pb, sb⟩ := hb
  refine ⟨_, ps_for hp hc pi hg.ex pb hs, fun B F env σ H D st p => ?_⟩
  refine si B F env σ H _ st ?_
  unfold sFor at p
  cases e : src env with
  | no => rw [e] at p; exact p
  | ex c fs => rw [e] at p; exact exOut st p
  | ok xs =>
    rw [e] at p
    intro J F1 H1 vs g1 d1 jw
    refine ⟨fun i m σ H => m = vs.length - i ∧ i ≤ vs.length ∧ ∃ F' env', Same F1 F' ∧ StOk X.K B F' env' σ H ∧ PostS X.K ca W B F' D (loopF g f (xs.drop i) env'), ⟨_, rfl, Nat.zero_le _, F1, env, Same.refl _, st.grow g1, PostS.mono g1.ff p⟩, ?_⟩
    rintro i m σ2 H2 ⟨rfl, hi, F2, env2, s2, st2, p2⟩
    have s3 : Same F1 H2 := s2.trans st2.cfg.sub
    by_cases hlt : i < vs.length
    · obtain ⟨x, hx, qx⟩ := DqA.get' d1 (List.getElem?_eq_getElem hlt)
      rw [drop_cons hx] at p2
      unfold loopF at p2
      refine .inr ⟨jw.go i H2 s3 hlt, fun σ' H' => ∃ F' env', Same F1 F' ∧ StOk X.K B F' env' σ' H' ∧ PostS X.K ca W B F' D (loopF g f (xs.drop (i + 1)) env'), fun σ' H' z => ⟨vs.length - (i + 1), by omega, rfl, hlt, z⟩, fun y H' hy => ?_⟩
      obtain ⟨rfl, e2⟩ := jw.yld i H2 y H' s3 hy hlt
      rw [List.getElem?_eq_getElem hlt] at e2
      cases e2
      cases e3 : tgE g x env2 with
      | none => rw [e3] at p2; exact p2.elim
      | some env3 =>
        rw [e3] at p2
        simp only at p2
        refine snd_tg st2 (qx.mono s2) e3 fun ws st3 => ?_
        refine sb B F2 env3 _ _ _ st3 ?_
        cases e4 : f env3 with
        | nx env' => rw [e4] at p2; exact fun F' σ' H' s st' => ⟨F', env', s2.trans s, st', PostS.mono s p2⟩
        | ct env' => rw [e4] at p2; exact fun F' σ' H' s st' => ⟨F', env', s2.trans s, st', PostS.mono s p2⟩
        | bk env' => rw [e4] at p2; exact p2
        | rt r => rw [e4] at p2; exact p2
        | ex c fs env' => rw [e4] at p2; exact p2
        | no => rw [e4] at p2; exact p2
    · have e5 : i = vs.length := by omega
      subst e5
      rw [List.drop_eq_nil_of_le (by rw [d1.length]; exact Nat.le_refl _)] at p2
      exact .inl ⟨jw.stop H2 s3, p2 F2 σ2 H2 (Same.refl _) st2⟩
end
end VL

namespace VL
open PySem PySem.Spec PyProof.Rows L2

/-- inside a comprehension nothing may be raised -/
abbrev W0 : WX := fun _ _ _ _ => False
section
variable {ca : Nat → Addr} {W : WX} {X : Cx} {a b e : Expr} {es : List Expr} {fa fb : VEnv → Rs RV} {pos : Pos} {st : Stmt} {rest : List Stmt} {f g : VEnv → Out}
/-! ## list comprehensions -/
def wipeE (env : VEnv) : List Nat → VEnv
  | [] => env
  | v :: vs => (wipeE env vs).set v none
theorem wipe_ok {K : PySem.W.Frag} {B : Base} {F H : Hp} {env : VEnv} {σ : L2.St} (st : StOk K B F env σ H) : ∀ vs : List Nat, StOk K B F (wipeE env vs) (wipe σ vs) H
  | [] => st
  | v :: vs => (wipe_ok st vs).drop v
theorem wipe_get {σ : L2.St} {i : Nat} {vs : List Nat} (h : i ∈ vs) : (wipe σ vs)[i]? = some none ∨ (wipe σ vs)[i]? = none := by
  cases e : (wipe σ vs)[i]? with
  | none => exact .inr rfl
  | some o =>
    cases o with
    | none => exact .inl rfl
    | some v => exact absurd h (wipe_some e).2
theorem wipe_all {σ σ' : L2.St} {vs : List Nat} (hl : σ'.length = σ.length) (h : ∀ i, i ∉ vs → σ'[i]? = σ[i]?) : wipe σ' vs = wipe σ vs := by
  apply List.ext_getElem?
  intro i
  by_cases hi : i ∈ vs
  · have l1 := wipe_length σ' vs
    have l2 := wipe_length σ vs
    rcases wipe_get (σ := σ') hi with h1 | h1 <;> rcases wipe_get (σ := σ) hi with h2 | h2
    · rw [h1, h2]
    · have a1 := (List.getElem?_eq_some_iff.mp h1).1
      have a2 := List.getElem?_eq_none_iff.mp h2
      omega
    · have a1 := (List.getElem?_eq_some_iff.mp h2).1
      have a2 := List.getElem?_eq_none_iff.mp h1
      omega
    · rw [h1, h2]
  · rw [wipe_out hi, wipe_out hi]
    exact h i hi
theorem wipe_wipe {σ : L2.St} (vs : List Nat) : wipe (wipe σ vs) vs = wipe σ vs := wipe_all (wipe_length σ vs) fun i hi => wipe_out hi
theorem setAll_len : ∀ (is : List Nat) (vs : List V) (σ : L2.St), (setAll is vs σ).length = σ.length
  | [], _, σ => by unfold setAll; rfl
  | i :: is, [], σ => by unfold setAll; rfl
  | i :: is, v :: vs, σ => by unfold setAll; rw [setAll_len is vs]; simp
theorem setAll_get : ∀ (is : List Nat) (vs : List V) (σ : L2.St) (j : Nat), j ∉ is → (setAll is vs σ)[j]? = σ[j]?
  | [], _, σ, j, _ => by unfold setAll; rfl
  | i :: is, [], σ, j, _ => by unfold setAll; rfl
  | i :: is, v :: vs, σ, j, h => by
    unfold setAll
    rw [setAll_get is vs _ j (fun z => h (List.mem_cons_of_mem _ z)), List.getElem?_set_ne (fun z => h (by subst z; exact List.mem_cons_self))]
theorem tgSt_wipe {tg : Tg} {v : V} {vs : List V} {σ : L2.St} {own : List Nat} (h : ∀ i ∈ tgIx tg, i ∈ own) : wipe (tgSt tg v vs (wipe σ own)) own = wipe σ own := by
  rw [← wipe_wipe (σ := σ) own]
  cases tg with
  | nm i =>
    rw [wipe_wipe]
    refine (wipe_all (σ' := (wipe σ own).set i (some v)) (σ := wipe σ own) (by simp) fun j hj => ?_).trans (wipe_wipe own)
    have hij : i ≠ j := fun z => by subst z; exact hj (h i (by simp [tgIx]))
    rw [List.getElem?_set_ne hij]
  | tp is =>
    rw [wipe_wipe]
    refine (wipe_all (σ' := setAll is vs (wipe σ own)) (σ := wipe σ own) (setAll_len is vs _) fun j hj => ?_).trans (wipe_wipe own)
    exact setAll_get is vs _ j fun z => hj (h j z)
/-- the ifs -/
structure VTs (ca : Nat → Addr) (W : WX) (X : Cx) (ifs : List Expr) (f : VEnv → Rs Bool) : Prop where
  ex : ∃ t, PTs X ifs t ∧ SndT X.K ca W t f
def bYes : VEnv → Rs Bool := fun _ => .ok true
theorem vts_nil : VTs ca W X [] bYes := ⟨_, pts_nil, fun _ _ _ _ _ _ st p => p _ _ (Grow.refl st.cfg)⟩
theorem vts_one {c : Expr} {t : VEnv → Rs Bool} (h : VT ca W X c t) : VTs ca W X [c] t := by
  obtain ⟨t, pe, se⟩ := h
  exact ⟨_, pts_one pe, se⟩
def lcF (tg : Tg) (t : VEnv → Rs Bool) (fe : VEnv → Rs RV) (env : VEnv) : List PyData → Rs (List PyData)
  | [] => .ok []
  | x :: xs => match tgE tg x env with
    | none => .no
    | some e1 => match t e1 with
      | .ok true => (match fe e1 with
        | .ok r => (match r.toD with
          | some d => (lcF tg t fe env xs).bind fun ds => .ok (d :: ds)
          | none => .no)
        | _ => .no)
      | .ok false => lcF tg t fe env xs
      | _ => .no
theorem lcF_ex {tg : Tg} {t : VEnv → Rs Bool} {fe : VEnv → Rs RV} {env : VEnv} {c : Nat} {fs : List (Str × PyData)} : ∀ xs : List PyData, lcF tg t fe env xs ≠ .ex c fs
  | [], h => by cases h
  | x :: xs, h => by
    have ih := lcF_ex (tg := tg) (t := t) (fe := fe) (env := env) (c := c) (fs := fs) xs
    unfold lcF at h
    split at h
    · cases h
    · split at h
      · split at h
        · split at h
          · cases e : lcF tg t fe env xs with
            | ok ds => rw [e] at h; cases h
            | ex c' fs' => rw [e] at h; simp at h; exact ih (by rw [e, h.1, h.2])
            | no => rw [e] at h; cases h
          · cases h
        · cases h
      · exact ih h
      · cases h
theorem lcF_len {tg : Tg} {t : VEnv → Rs Bool} {fe : VEnv → Rs RV} {env : VEnv} : ∀ (xs ds : List PyData), lcF tg t fe env xs = .ok ds → ds.length ≤ xs.length
  | [], ds, h => by cases h; simp
  | x :: xs, ds, h => by
    unfold lcF at h
    split at h
    · cases h
    · split at h
      · split at h
        · split at h
          · cases e : lcF tg t fe env xs with
            | ok es =>
              rw [e] at h
              have := lcF_len xs es e
              simp at h
              subst h
              simp
              exact this
            | ex c' fs' => rw [e] at h; cases h
            | no => rw [e] at h; cases h
          · cases h
        · cases h
      · have := lcF_len xs ds h
        simp; omega
      · cases h
def cLc (src : VEnv → Rs (List PyData)) (own : List Nat) (tg : Tg) (t : VEnv → Rs Bool) (fe : VEnv → Rs RV) : VEnv → Rs RV := fun env => (src env).bind fun xs => if xs.length ≤ 1000000 then (lcF tg t fe (wipeE env own) xs).bind fun ds => .ok (.ol ds) else .no
theorem million {n : Nat} (h : n ≤ 1000000) : n < sizeLine := Nat.lt_of_le_of_lt h (by decide)
theorem snd_lc {K : PySem.W.Frag} {wi : TI} {tt : TT} {te : TE} {src : VEnv → Rs (List PyData)} {own : List Nat} {tg : Tg} {t : VEnv → Rs Bool} {fe : VEnv → Rs RV} (ho : ∀ i ∈ tgIx tg, i ∈ own) (si : SndJ K ca W wi src) (s1 : SndT K ca W0 tt t) (s2 : SndE K ca W0 te fe) :
    SndE K ca W (tLc wi (tgT K tg) tt te own) (cLc src own tg t fe) := by
  intro B F env σ H Q st p
  refine si B F env σ H _ st ?_
  unfold cLc at p
  cases e : src env with
  | no => rw [e] at p; exact p
  | ex c fs => rw [e] at p; exact p
  | ok xs =>
    rw [e] at p
    simp only [Rs.bind_ok] at p
    split at p
    · rename_i hz
      cases e2 : lcF tg t fe (wipeE env own) xs with
      | no => rw [e2] at p; exact p.elim
      | ex c fs => exact absurd e2 (lcF_ex xs)
      | ok res =>
        rw [e2] at p
        intro J F1 H1 vs g1 d1 jw D nD
        have stw : StOk K B F1 (wipeE env own) (wipe σ own) H1 := wipe_ok (st.grow g1) own
        have fD : F1 D = none := same_none g1.cfg.sub nD
        refine ⟨fun i m H => m = vs.length - i ∧ i ≤ vs.length ∧ ∃ F' acc ds rs, Grow F1 H1 F' H ∧ F' D = none ∧ H D = some (.lst acc) ∧ DqA K F' acc ds ∧ lcF tg t fe (wipeE env own) (xs.drop i) = .ok rs ∧ ds ++ rs = res ∧ ds.length ≤ i,
          ⟨_, rfl, Nat.zero_le _, F1, [], [], res, Grow.newO g1.cfg _ nD (fun _ z => by cases z), fD, upd_same, .nil, e2, rfl, Nat.le_refl _⟩, ?_⟩
        rintro i m H2 ⟨rfl, hi, F2, acc, ds, rs, g2, f2, hD, q2, er, es, dl⟩
        by_cases hlt : i < vs.length
        · obtain ⟨x, hx, qx⟩ := DqA.get' d1 (List.getElem?_eq_getElem hlt)
          rw [drop_cons hx] at er
          unfold lcF at er
          refine .inr ⟨jw.go i H2 g2.hh hlt, fun H => i + 1 ≤ vs.length ∧ ∃ F' acc ds rs, Grow F1 H1 F' H ∧ F' D = none ∧ H D = some (.lst acc) ∧ DqA K F' acc ds ∧ lcF tg t fe (wipeE env own) (xs.drop (i + 1)) = .ok rs ∧ ds ++ rs = res ∧ ds.length ≤ i + 1,
            fun H' z => ⟨vs.length - (i + 1), by omega, rfl, z.1, z.2⟩, fun y H' hy => ?_⟩
          obtain ⟨rfl, e5⟩ := jw.yld i H2 y H' g2.hh hy hlt
          rw [List.getElem?_eq_getElem hlt] at e5
          cases e5
          cases e3 : tgE tg x (wipeE env own) with
          | none => rw [e3] at er; cases er
          | some env3 =>
            rw [e3] at er
            simp only at er
            refine snd_tg (stw.grow g2) (qx.mono g2.ff) e3 fun ws st3 => ⟨tgSt_wipe ho, ?_⟩
            refine s1 B F2 env3 _ _ _ st3 ?_
            cases e4 : t env3 with
            | no => rw [e4] at er; cases er
            | ex c fs => rw [e4] at er; cases er
            | ok b =>
              rw [e4] at er
              intro F4 H4 g4
              have f4 : F4 D = none := g4.stillFree f2 hD
              cases b with
              | false =>
                rw [if_neg Bool.false_ne_true]
                exact ⟨hlt, F4, acc, ds, rs, g2.trans g4, f4, g4.hh _ _ hD, DqA.mono g4.ff _ _ q2, er, es, by omega⟩
              | true =>
                rw [if_pos rfl]
                simp only at er
                refine s2 B F4 env3 _ H4 _ (st3.grow g4) ?_
                cases e6 : fe env3 with
                | no => rw [e6] at er; cases er
                | ex c fs => rw [e6] at er; cases er
                | ok r =>
                  rw [e6] at er
                  simp only at er
                  cases e7 : r.toD with
                  | none => rw [e7] at er; cases er
                  | some d =>
                    rw [e7] at er
                    simp only at er
                    cases e8 : lcF tg t fe (wipeE env own) (xs.drop (i + 1)) with
                    | no => rw [e8] at er; cases er
                    | ex c fs => rw [e8] at er; cases er
                    | ok rs' =>
                      rw [e8] at er
                      simp at er
                      intro F6 H6 v6 g6 q6
                      obtain ⟨F7, g7, s7, q7⟩ := frz g6 (Fz.of q6 e7)
                      have g8 : Grow F1 H1 F7 H6 := (g2.trans g4).trans g7
                      have h6 : H6 D = some (.lst acc) := g7.hh _ _ (g4.hh _ _ hD)
                      have f7 : F7 D = none := g7.stillFree f4 (g4.hh _ _ hD)
                      have qa : DqA K F7 acc ds := DqA.mono g7.ff _ _ (DqA.mono g4.ff _ _ q2)
                      have al : acc.length = ds.length := qa.length
                      refine ⟨acc, h6, million (by have := d1.length; omega), hlt, F7, acc ++ [v6], ds ++ [d], rs', g8.write nD f7 h6 (fun _ z => by cases z), f7, upd_same, qa.append (.cons q7 .nil), rfl, ?_, by simp; omega⟩
                      rw [← es, ← er]
                      simp
        · have e5 : i = vs.length := by omega
          subst e5
          rw [List.drop_eq_nil_of_le (by rw [d1.length]; exact Nat.le_refl _)] at er
          cases er
          rw [List.append_nil] at es
          subst es
          exact .inl ⟨jw.stop H2 g2.hh, p F2 H2 (.ref D) (g1.trans g2) ⟨D, acc, rfl, same_none g1.hh nD, f2, hD, q2⟩⟩
    · exact p.elim
/-- the one reading of a semantic function -/
def tU (K : PySem.W.Frag) (ca : Nat → Addr) (W : WX) (f : VEnv → Rs RV) : TE := fun σ H Q => ∃ B F env, StOk K B F env σ H ∧ PostE K ca W σ F H Q (f env)
def tUT (K : PySem.W.Frag) (ca : Nat → Addr) (W : WX) (f : VEnv → Rs Bool) : TT := fun σ H Q => ∃ B F env, StOk K B F env σ H ∧ PostB K ca W σ F H Q (f env)
theorem VE.pe {f : VEnv → Rs RV} (h : VE ca W X e f) : PE X e (tU X.K ca W f) := by
  obtain ⟨t, p, s⟩ := h
  exact ⟨fun pins s0 σ H Q I ⟨B, F, env, st, q⟩ => p.run pins s0 σ H Q I (s B F env σ H Q st q)⟩
theorem VTs.pt {ifs : List Expr} {f : VEnv → Rs Bool} (h : VTs ca W X ifs f) : PTs X ifs (tUT X.K ca W f) := by
  obtain ⟨t, p, s⟩ := h
  exact ⟨fun pins s0 σ H Q I ⟨B, F, env, st, q⟩ => p.run pins s0 σ H Q I (s B F env σ H Q st q)⟩
theorem ve_lc {elt tg iter : Expr} {ifs : List Expr} {scope : Scope} {own : List (Str × Nat)} {src : VEnv → Rs (List PyData)} {g : Tg} {t : VEnv → Rs Bool} {fe : VEnv → Rs RV} (hc : X.calm = true) (hN : X.N.Nodup) (hi : VJ ca W X tg iter src) (ok : BlkOk X.N X.env.scope scope own) (ho : ∀ i ∈ tgIx g, i ∈ own.map (·.2))
    (hg : ∀ (s : Shared) (H : Hp) (C : Addr) (cl : List (Str × Addr)) (fp : List Addr), VG (X.blk s H scope (compEnvC scope cl C X.env) fp) tg g) (ht : ∀ (s : Shared) (H : Hp) (C : Addr) (cl : List (Str × Addr)) (fp : List Addr), VTs ca W0 (X.blk s H scope (compEnvC scope cl C X.env) fp) ifs t)
    (he : ∀ (s : Shared) (H : Hp) (C : Addr) (cl : List (Str × Addr)) (fp : List Addr), VE ca W0 (X.blk s H scope (compEnvC scope cl C X.env) fp) elt fe) (hs : ∀ x, foldedSetIterable iter X.env x = pure x := by intro _; rfl) :
    VE ca W X (.ListComp elt [⟨tg, iter, ifs, 0⟩] scope pos) (cLc src (own.map (·.2)) g t fe) := by
  obtain ⟨wi, pi, si⟩ := hi
  exact ⟨_, pe_lc hc hN pi ok (fun s H C cl fp => (show PG _ tg (tgT X.K g) from (hg s H C cl fp).ex)) (fun s H C cl fp => (show PTs _ ifs (tUT X.K ca W0 t) from (ht s H C cl fp).pt)) (fun s H C cl fp => (show PE _ elt (tU X.K ca W0 fe) from (he s H C cl fp).pe)) hs,
    snd_lc ho si (fun B F env σ H Q st q => ⟨B, F, env, st, q⟩ : SndT X.K ca W0 (tUT X.K ca W0 t) t) (fun B F env σ H Q st q => ⟨B, F, env, st, q⟩ : SndE X.K ca W0 (tU X.K ca W0 fe) fe)⟩
/-- y = [..] on one line -/
theorem vs_setLc {i : Nat} {y : Str} {py : Pos} {elt tg iter : Expr} {ifs : List Expr} {scope : Scope} {own : List (Str × Nat)} {spos : Pos} {src : VEnv → Rs (List PyData)} {g : Tg} {t : VEnv → Rs Bool} {fe : VEnv → Rs RV} (hc : X.calm = true) (hN : X.N.Nodup) (hy : X.N[i]? = some y) (hyl : X.env.scope.names.lookup y = some .local)
    (hsw : swapsWith (.ListComp elt [⟨tg, iter, ifs, 0⟩] scope pos) (some (.Name y py)) spos.line X.env = pure true) (hi : VJ ca W X tg iter src) (ok : BlkOk X.N X.env.scope scope own) (ho : ∀ i ∈ tgIx g, i ∈ own.map (·.2))
    (hg : ∀ (s : Shared) (H : Hp) (C : Addr) (cl : List (Str × Addr)) (fp : List Addr), VG (X.blk s H scope (compEnvC scope cl C X.env) fp) tg g) (ht : ∀ (s : Shared) (H : Hp) (C : Addr) (cl : List (Str × Addr)) (fp : List Addr), VTs ca W0 (X.blk s H scope (compEnvC scope cl C X.env) fp) ifs t)
    (he : ∀ (s : Shared) (H : Hp) (C : Addr) (cl : List (Str × Addr)) (fp : List Addr), VE ca W0 (X.blk s H scope (compEnvC scope cl C X.env) fp) elt fe) (hs : ∀ x, foldedSetIterable iter X.env x = pure x := by intro _; rfl) :
    VS ca W X (.Assign [.Name y py] (.ListComp elt [⟨tg, iter, ifs, 0⟩] scope pos) spos) (sSet i (cLc src (own.map (·.2)) g t fe)) := by
  obtain ⟨wi, pi, si⟩ := hi
  refine ⟨_, ps_setLc hc hN hy hyl hsw pi ok (fun s H C cl fp => (show PG _ tg (tgT X.K g) from (hg s H C cl fp).ex)) (fun s H C cl fp => (show PTs _ ifs (tUT X.K ca W0 t) from (ht s H C cl fp).pt)) (fun s H C cl fp => (show PE _ elt (tU X.K ca W0 fe) from (he s H C cl fp).pe)) hs, fun B F env σ H D st p => ?_⟩
  have se := snd_lc (own := own.map (·.2)) (W := W) ho si (fun B F env σ H Q st q => ⟨B, F, env, st, q⟩ : SndT X.K ca W0 (tUT X.K ca W0 t) t) (fun B F env σ H Q st q => ⟨B, F, env, st, q⟩ : SndE X.K ca W0 (tU X.K ca W0 fe) fe)
  show tLc wi (tgT X.K g) (tUT X.K ca W0 t) (tU X.K ca W0 fe) (own.map (·.2)) σ H fun x H1 => D.nx (σ.set i (some x)) H1
  exact outE se st p fun r F1 H1 v p1 g q => snd_put st g q p1

/-! ## defs -/
/-- what is handed to a def -/
def RV.arg : RV → RV
  | .ol xs => .d (.list xs)
  | .od xs => .bd xs
  | .ot xs => .bt xs
  | r => r
theorem arg1 {K : PySem.W.Frag} {F0 H0 F H F1 : Hp} {v : V} {r : RV} (g1 : Grow F0 H0 F1 H) (s1 : Same F F1) (h1 : RVok K H0 F H v r) : ∃ F', Grow F0 H0 F' H ∧ Same F1 F' ∧ RVok K H F' H v r.arg := by
  cases r with
  | d x => exact ⟨F1, g1, Same.refl _, Dq.mono s1 x v h1⟩
  | ol xs =>
    obtain ⟨F2, g2, s2, q2⟩ := frz g1 ((Fz.of h1 (d := .list xs) rfl).mono s1)
    exact ⟨F2, g2, s2, q2⟩
  | bl xs => obtain ⟨p, ws, e1, hp, q⟩ := h1; exact ⟨F1, g1, Same.refl _, p, ws, e1, hp, DqA.mono s1 _ _ q⟩
  | od xs => obtain ⟨p, ws, e1, _, _, hp, q⟩ := h1; exact ⟨F1, g1, Same.refl _, p, ws, e1, hp, q.mono s1⟩
  | bd xs => obtain ⟨p, ws, e1, hp, q⟩ := h1; exact ⟨F1, g1, Same.refl _, p, ws, e1, hp, q.mono s1⟩
  | ot xs => obtain ⟨p, ws, e1, _, _, hp, q⟩ := h1; exact ⟨F1, g1, Same.refl _, p, ws, e1, hp, q.mono s1⟩
  | bt xs => obtain ⟨p, ws, e1, hp, q⟩ := h1; exact ⟨F1, g1, Same.refl _, p, ws, e1, hp, q.mono s1⟩
  | sc ns => obtain ⟨a, e1, q⟩ := h1; exact ⟨F1, g1, Same.refl _, a, e1, s1.seq q⟩
  | xo a dd c fs => obtain ⟨e1, xs, hp, q⟩ := h1; exact ⟨F1, g1, Same.refl _, e1, xs, hp, q.mono s1⟩
theorem arg_own (r : RV) : r.arg.own = false := by cases r <;> rfl
theorem arg_mono {K : PySem.W.Frag} {H F F' : Hp} (s : Same F F') {v : V} {r : RV} (ho : r.own = false) (h : RVok K H F H v r) : RVok K H F' H v r := by
  cases r with
  | d x => exact Dq.mono s x v h
  | bl xs => obtain ⟨p, ws, e1, hp, q⟩ := h; exact ⟨p, ws, e1, hp, DqA.mono s _ _ q⟩
  | bd xs => obtain ⟨p, ws, e1, hp, q⟩ := h; exact ⟨p, ws, e1, hp, q.mono s⟩
  | bt xs => obtain ⟨p, ws, e1, hp, q⟩ := h; exact ⟨p, ws, e1, hp, q.mono s⟩
  | sc ns => obtain ⟨a, e1, q⟩ := h; exact ⟨a, e1, s.seq q⟩
  | xo a dd c fs => obtain ⟨e1, xs, hp, q⟩ := h; exact ⟨e1, xs, hp, q.mono s⟩
  | _ => cases ho
theorem args_go {K : PySem.W.Frag} {F0 H0 F H : Hp} : ∀ {vs : List V} {rs : List RV} {F1 : Hp}, Grow F0 H0 F1 H → Same F F1 → Paired (fun v r => RVok K H0 F H v r) vs rs →
    ∃ F', Grow F0 H0 F' H ∧ Same F1 F' ∧ Paired (fun v r => RVok K H F' H v r) vs (rs.map RV.arg)
  | _, _, F1, g, s, .nil => ⟨F1, g, Same.refl _, .nil⟩
  | _, _, F1, g, s, .cons (b := r) h1 h2 => by
    obtain ⟨F2, g2, s2, q2⟩ := arg1 g s h1
    obtain ⟨F3, g3, s3, q3⟩ := args_go g2 (s.trans s2) h2
    exact ⟨F3, g3, s2.trans s3, .cons (arg_mono s3 (arg_own r) q2) q3⟩
/-- a def's promise -/
def PostF (K : PySem.W.Frag) (ca : Nat → Addr) (G H : Hp) (Q : VK) (E : XK) : Rs RV → Prop
  | .ok r => ∀ G' H' v, Grow G H G' H' → RVok K H G' H' v r → Q v H'
  | .ex c fs => ∀ G' H' cls dx, Grow G H G' H' → ExOk K ca G' H' cls dx c fs → E cls dx H'
  | .no => False
def spV (K : PySem.W.Frag) (ca : Nat → Addr) (n : Nat) (F : List RV → Rs RV) : Sp := fun vs H Q E => vs.length = n ∧ ∃ G rs, Cfg G H ∧ Paired (fun v r => RVok K H G H v r) vs rs ∧ PostF K ca G H Q E (F rs)
/-- the semantic function of a def out of that of its body; n: its slots -/
def Out.fin : Out → Rs RV
  | .nx _ => .ok (.d .none)
  | .rt r => .ok r
  | .ex c fs _ => .ex c fs
  | _ => .no
def fnD (n : Nat) (body : VEnv → Out) : List RV → Rs RV := fun rs => (body (rs.map some ++ List.replicate (n - rs.length) none)).fin
theorem start_ok {K : PySem.W.Frag} {G H : Hp} {vs : List V} {rs : List RV} (N : List Str) (c : Cfg G H) (h : Paired (fun v r => RVok K H G H v r) vs rs) : StOk K ⟨G, H⟩ G (rs.map some ++ List.replicate (N.length - rs.length) none) (start N vs) H := by
  have hl : vs.length = rs.length := Paired.length h
  have get : ∀ (i : Nat) (r : RV), (rs.map some ++ List.replicate (N.length - rs.length) none)[i]? = some (some r) → ∃ v, (start N vs)[i]? = some (some v) ∧ RVok K H G H v r := by
    intro i r e
    by_cases hi : i < rs.length
    · rw [List.getElem?_append_left (by simpa using hi), List.getElem?_map] at e
      have e1 : rs[i]? = some r := by
        cases z : rs[i]? with
        | none => rw [z] at e; cases e
        | some y => rw [z] at e; cases e; rfl
      have go : ∀ {vs : List V} {rs : List RV} {i : Nat}, Paired (fun v r => RVok K H G H v r) vs rs → rs[i]? = some r → ∃ v, vs[i]? = some v ∧ RVok K H G H v r := by
        intro vs rs i h
        induction h generalizing i with
        | nil => intro e; simp at e
        | cons h1 h2 ih => intro e; cases i with
          | zero => simp at e; subst e; exact ⟨_, rfl, h1⟩
          | succ i => obtain ⟨v, q1, q2⟩ := ih (i := i) (by simpa using e); exact ⟨v, by simpa using q1, q2⟩
      obtain ⟨v, q1, q2⟩ := go h e1
      refine ⟨v, ?_, q2⟩
      unfold L2.start
      rw [List.getElem?_append_left (by simpa using (by omega : i < vs.length)), List.getElem?_map, q1]
      rfl
    · rw [List.getElem?_append_right (by simpa using Nat.le_of_not_lt hi), List.getElem?_replicate] at e
      split at e
      · cases e
      · cases e
  have noOwn : ∀ (i : Nat) (r : RV), (rs.map some ++ List.replicate (N.length - rs.length) none)[i]? = some (some r) → r.own = true → False := by
    intro i r e o
    obtain ⟨v, _, q⟩ := get i r e
    cases r with
    | ol xs => obtain ⟨p, ws, _, n, _, hp, _⟩ := q; rw [n] at hp; cases hp
    | od xs => obtain ⟨p, ws, _, n, _, hp, _⟩ := q; rw [n] at hp; cases hp
    | ot xs => obtain ⟨p, ws, _, n, _, hp, _⟩ := q; rw [n] at hp; cases hp
    | _ => cases o
  refine ⟨Grow.refl c, ?_, get, fun i r p e o z => ?_, fun i j r r' p _ e _ o _ _ => (noOwn i r e o).elim⟩
  rotate_left
  · obtain ⟨v, e1, q⟩ := get i r e
    rw [z] at e1
    cases e1
    cases r with
    | bl xs => obtain ⟨a, ws, e2, hp, _⟩ := q; cases e2; exact ⟨_, hp⟩
    | bd xs => obtain ⟨a, ws, e2, hp, _⟩ := q; cases e2; exact ⟨_, hp⟩
    | bt xs => obtain ⟨a, ws, e2, hp, _⟩ := q; cases e2; exact ⟨_, hp⟩
    | _ => cases o
  unfold L2.start
  simp [hl]
theorem fn_ok {P : Program} {w : World} {K : PySem.W.Frag} {mg : Str → Option Value} {base : Heap} {x qual : Str} {sd : Stmt} {fA : Addr} {fd : FuncData} {N ps : List Str} {k : Nat} {body : VEnv → Out} (F : Fun K x qual sd fA fd) (S : FnScope N ps (defScope sd))
    (hb : ∀ (cdv : Value) (A : Around) (outer : List PySem.Env) (s : Shared) (H : Hp) (E : XK), Room k (A.deeper (envOfC qual (defScope sd) s.heap.objs.size fA cdv)) → Takes (cxOf (L2.CX P w) P w K mg base N qual (defScope sd) fA cdv A outer s H E) (fun cls dx _ H' => E cls dx H') →
      PassesOwn (model P w) (A.deeper (envOfC qual (defScope sd) s.heap.objs.size fA cdv)) (envOfC qual (defScope sd) s.heap.objs.size fA cdv) (cxOf (L2.CX P w) P w K mg base N qual (defScope sd) fA cdv A outer s H E).xe →
      VSs ca (fun cls dx _ H' => E cls dx H') (cxOf (L2.CX P w) P w K mg base N qual (defScope sd) fA cdv A outer s H E) (defBody sd) body) : FnOk P w K mg base (L2.CX P w) (k + 1) fA fd ps (spV K ca ps.length (fnD N.length body)) := by
  refine F.okX S (fun vs H Q E h => h.1) (fun cdv A outer s H vs Q E hr h => ?_)
  obtain ⟨hl, G, rs, c, pr, q⟩ := h
  obtain ⟨t, p, sn⟩ := hb cdv A outer s H E hr (takes_of rfl rfl rfl rfl) (passes_of rfl)
  refine ⟨t, p, sn ⟨G, H⟩ G _ _ H _ (start_ok N c pr) ?_⟩
  unfold fnD at q
  generalize hB : body (rs.map some ++ List.replicate (N.length - rs.length) none) = o at q ⊢
  cases o with
  | nx env => exact fun F' σ' H' s st => q F' H' .non st.gr .non
  | rt r => exact fun F' H' v g r => q F' H' v g r
  | ex c fs env => exact fun F' σ' H' cls dx s st x => q F' H' cls dx st.gr x
  | bk env => exact q.elim
  | ct env => exact q.elim
  | no => exact q.elim
/-- f(e, ..) -/
theorem ve_call {fA : Addr} {fd : FuncData} {ps : List Str} {x : Str} {p : Pos} {k n : Nat} {G : List RV → Rs RV} {f : VEnv → Rs (List RV)} (Fo : FnOk X.prog X.w X.K X.mg X.base (L2.CX X.prog X.w) k fA fd ps (spV X.K ca n G)) (hr : Room k X.A) (hg : Gl X x) (hm : X.mg x = some (.ref fA)) (hk : PySem.W.keepIn X.K (.ref fA) = true) (hb : Binds X.K fd ps []) (tk : Takes X W)
    (ha : VA ca W X (e :: es) f) (hn : (e :: es).length = n := by rfl) (hdb : (x == ("__debug__" : Str)) = false := by decide) (he : starEach (e :: es) X.env = (false, eval e X.env) :: starEach es X.env := by rfl) (hpl : (backTo pos (starEach es X.env)).any (·.1) = false := by rfl) :
    VE ca W X (.Call (.Name x p) (e :: es) [] pos) (cA (fun rs => if rs.length = n then G (rs.map RV.arg) else .no) f) := by
  obtain ⟨t, pa, sa⟩ := ha
  refine ⟨_, pe_callSD Fo hr hg hm hk hb .nil (fun σ => passAt tk σ) pa hdb he hpl, fun B F env σ H Q st q => ?_⟩
  show t σ H fun vs H1 => spV X.K ca n G (vs ++ []) H1 Q (WE W σ)
  refine seqA (PostE X.K ca W σ F H Q) sa st q (fun _ _ h => h) (fun h => h) fun rs F1 H1 vs p1 g1 q1 => ?_
  rw [List.append_nil]
  split at p1
  · rename_i hl
    obtain ⟨F2, g2, s2, q2⟩ := args_go g1 (Same.refl _) q1
    refine ⟨by rw [Paired.length q1, hl], F2, _, g2.cfg, q2, ?_⟩
    cases e1 : G (rs.map RV.arg) with
    | ok r => rw [e1] at p1; exact fun G' H' v gg rr => p1 G' H' v (g2.trans gg) (rr.older g2.hh)
    | ex c fs => rw [e1] at p1; exact fun G' H' cls dx gg x => p1 G' H' cls dx (g2.trans gg) x
    | no => rw [e1] at p1; exact p1
  · exact p1.elim
end
end VL

namespace VL
open PySem PySem.Spec PyProof.Rows L2

/-! ## reading values -/
def RV.lv : RV → Option (List PyData)
  | .d (.list xs) => some xs
  | .ol xs => some xs
  | .bl xs => some xs
  | _ => none
def RV.qv : RV → Option (List PyData)
  | .sc ns => some (ns.map .int)
  | r => r.lv
def RV.tv : RV → Option (List PyData)
  | .d (.tuple xs) => some xs
  | _ => none
def RV.data : RV → Option PyData
  | .d x => some x
  | .ol xs => some (.list xs)
  | .bl xs => some (.list xs)
  | .sc ns => some (.list (ns.map .int))
  | _ => none
section
variable {K : PySem.W.Frag} {ca : Nat → Addr} {H0 F H : Hp} {v : V} {r : RV} {xs : List PyData}
theorem lv_ok (s : Same F H) (h : RVok K H0 F H v r) (e : r.lv = some xs) : ∃ p vs, v = .ref p ∧ H p = some (.lst vs) ∧ DqA K F vs xs := by
  cases r with
  | d x =>
    cases x with
    | list ys => cases e; cases h with
      | lst h1 h2 => exact ⟨_, _, rfl, s _ _ h1, h2⟩
    | _ => cases e
  | ol ys => cases e; obtain ⟨p, vs, e1, _, _, hp, q⟩ := h; exact ⟨p, vs, e1, hp, q⟩
  | bl ys => cases e; obtain ⟨p, vs, e1, hp, q⟩ := h; exact ⟨p, vs, e1, hp, q⟩
  | _ => cases e
theorem qv_ok (s : Same F H) (h : RVok K H0 F H v r) (e : r.qv = some xs) : ∃ p vs, v = .ref p ∧ SqL K H p vs ∧ DqA K F vs xs := by
  cases r with
  | sc ns => cases e; obtain ⟨a, e1, q⟩ := h; exact ⟨a, _, e1, s.seq q, DqA.of_ints ns⟩
  | d x => obtain ⟨p, vs, e1, hp, q⟩ := lv_ok s h e; exact ⟨p, vs, e1, SqL.of hp, q⟩
  | ol x => obtain ⟨p, vs, e1, hp, q⟩ := lv_ok s h e; exact ⟨p, vs, e1, SqL.of hp, q⟩
  | bl x => obtain ⟨p, vs, e1, hp, q⟩ := lv_ok s h e; exact ⟨p, vs, e1, SqL.of hp, q⟩
  | _ => cases e
theorem tv_ok (s : Same F H) (h : RVok K H0 F H v r) (e : r.tv = some xs) : ∃ p vs, v = .ref p ∧ SqT K H p vs ∧ SqT K F p vs ∧ DqA K F vs xs := by
  cases r with
  | d x =>
    cases x with
    | tuple ys => cases e; cases h with
      | tup h1 h2 => exact ⟨_, _, rfl, same_seqT s h1, h1, h2⟩
    | _ => cases e
  | _ => cases e
theorem data_ok {x : PyData} (s : Same F H) (h : RVok K H0 F H v r) (e : r.data = some x) : Dp K H v x := by
  cases r with
  | d y => cases e; exact Dq.dp x v (Dq.mono s x v h)
  | ol ys => cases e; obtain ⟨p, vs, e1, _, _, hp, q⟩ := h; subst e1; exact .lst (SqL.of hp) (DqA.dp _ _ (DqA.mono s _ _ q))
  | bl ys => cases e; obtain ⟨p, vs, e1, hp, q⟩ := h; subst e1; exact .lst (SqL.of hp) (DqA.dp _ _ (DqA.mono s _ _ q))
  | sc ns => cases e; obtain ⟨a, e1, q⟩ := h; subst e1; exact .lst (s.seq q) (DqA.dp _ _ (DqA.of_ints (F := H) ns))
  | _ => cases e
theorem atI_dq {vs : List V} {i : Int} {d : PyData} (h : DqA K F vs xs) (e : atI xs i = some d) : ∃ w, atI vs i = some w ∧ Dq K F w d := by
  unfold atI at e ⊢
  rw [h.length]
  cases z : ixN xs.length i with
  | none => rw [z] at e; cases e
  | some j => rw [z] at e; exact h.get e
instance dCMul (i j : Int) : Decidable (CMul i j) := inferInstanceAs (Decidable ((-(2 ^ 64) < i ∧ i < 2 ^ 64) ∨ (-(2 ^ 64) < j ∧ j < 2 ^ 64)))
instance dCDiv (i j : Int) : Decidable (CDiv i j) := inferInstanceAs (Decidable (0 < j ∧ j < 1073741824))
instance dCPow (i j : Int) : Decidable (CPow i j) := inferInstanceAs (Decidable (0 ≤ j ∧ j ≤ 1000000 ∧ i.natAbs < 2 ^ 64))
/-! ### numbers -/
def RV.i2 (f : Int → Int → Rs RV) : RV → RV → Rs RV
  | .d (.int i), .d (.int j) => f i j
  | _, _ => .no
def okI (i : Int) : Rs RV := .ok (.d (.int i))
def okB (b : Bool) : Rs RV := .ok (.d (.bool b))
theorem snd_i2 {C : Int → Int → Prop} [∀ i j, Decidable (C i j)] {g : Int → Int → Int} : Op2S K ca (rI C fun i j => .int (g i j)) (RV.i2 fun i j => if C i j then okI (g i j) else .no) := by
  intro W σ F0 H0 F H v1 v2 a b Q gr h1 h2 p
  cases a with
  | d x => cases b with
    | d y => cases x with
      | int i => cases y with
        | int j =>
          cases h1; cases h2
          simp only [RV.i2] at p
          split at p
          · rename_i c; exact ⟨i, j, rfl, rfl, c, p F H _ gr (.int _)⟩
          · exact p.elim
        | _ => exact p.elim
      | _ => exact p.elim
    | _ => cases x <;> exact p.elim
  | _ => exact p.elim
theorem snd_i20 {g : Int → Int → V} {g' : Int → Int → PyData} (hg : ∀ (F : Hp) i j, Dq K F (g i j) (g' i j)) : Op2S K ca (rI0 g) (RV.i2 fun i j => .ok (.d (g' i j))) := by
  intro W σ F0 H0 F H v1 v2 a b Q gr h1 h2 p
  cases a with
  | d x => cases b with
    | d y => cases x with
      | int i => cases y with
        | int j => cases h1; cases h2; exact ⟨i, j, rfl, rfl, p F H _ gr (hg _ _ _)⟩
        | _ => exact p.elim
      | _ => exact p.elim
    | _ => cases x <;> exact p.elim
  | _ => exact p.elim
def gSub := RV.i2 fun i j => okI (i - j)
def gMul := RV.i2 fun i j => if i.natAbs < 18446744073709551616 ∨ j.natAbs < 18446744073709551616 then okI (i * j) else .no
def gMod := RV.i2 fun i j => if 0 < j then okI (i % j) else .no
def gDiv := RV.i2 fun i j => if 0 < j ∧ j.natAbs < 1073741824 then okI (i / j) else .no
def gPow := RV.i2 fun i j => if 0 ≤ j ∧ j ≤ 1000000 ∧ i.natAbs < 2 ^ 64 then okI (i ^ j.toNat) else .no
def gLt := RV.i2 fun i j => okB (decide (i < j))
def gLe := RV.i2 fun i j => okB (decide (i ≤ j))
def gGt := RV.i2 fun i j => okB (decide (j < i))
def gGe := RV.i2 fun i j => okB (decide (j ≤ i))
theorem s_sub : Op2S K ca (rI0 fun i j => .int (i - j)) gSub := snd_i20 fun _ _ _ => .int _
theorem rI_weak {C C' : Int → Int → Prop} {g : Int → Int → V} {G : RV → RV → Rs RV} (h : ∀ i j, C i j → C' i j) (s : Op2S K ca (rI C g) G) : Op2S K ca (rI C' g) G := by
  intro W σ F0 H0 F H v1 v2 a b Q gr h1 h2 p
  obtain ⟨i, j, e1, e2, c, q⟩ := s W σ F0 H0 F H v1 v2 a b Q gr h1 h2 p
  exact ⟨i, j, e1, e2, h i j c, q⟩
theorem s_div : Op2S K ca (rI CDiv fun i j => .int (i / j)) gDiv :=
  rI_weak (C := fun i j => 0 < j ∧ j.natAbs < 1073741824) (fun i j h => by unfold CDiv; omega) snd_i2
theorem s_mul : Op2S K ca (rI CMul fun i j => .int (i * j)) gMul :=
  rI_weak (C := fun i j => i.natAbs < 18446744073709551616 ∨ j.natAbs < 18446744073709551616) (fun i j h => by unfold CMul; omega) snd_i2
theorem s_mod : Op2S K ca (rI (fun _ j => 0 < j) fun i j => .int (i % j)) gMod := snd_i2
theorem s_pow : Op2S K ca (rI CPow fun i j => .int (i ^ j.toNat)) gPow := by
  exact snd_i2 (C := CPow)
theorem s_lt : Op2S K ca (rI0 fun i j => .bl (decide (i < j))) gLt := snd_i20 fun _ _ _ => .bl _
theorem s_le : Op2S K ca (rI0 fun i j => .bl (decide (i ≤ j))) gLe := snd_i20 fun _ _ _ => .bl _
theorem s_gt : Op2S K ca (rI0 fun i j => .bl (decide (j < i))) gGt := snd_i20 fun _ _ _ => .bl _
theorem s_ge : Op2S K ca (rI0 fun i j => .bl (decide (j ≤ i))) gGe := snd_i20 fun _ _ _ => .bl _
def gNeg : RV → Rs RV
  | .d (.int i) => okI (-i)
  | _ => .no
theorem s_neg : Op1S K ca (rU fun i => .int (-i)) gNeg := by
  intro W σ F0 H0 F H v a Q gr h p
  cases a with
  | d x => cases x with
    | int i => cases h; exact ⟨i, rfl, p F H _ gr (.int _)⟩
    | _ => exact p.elim
  | _ => exact p.elim
/-! ### + -/
def rOr (r r' : R2) : R2 := fun x y H Q => r x y H Q ∨ r' x y H Q
theorem op_or' {X : Cx} {f : Value → Value → Sem Value} {r r' : R2} (h : OpR X f r) (h' : OpR X f r') : OpR X f (rOr r r') := by
  intro pins s σ H x y v u Q I rx ry q
  rcases q with q | q
  · exact h pins s σ H x y v u Q I rx ry q
  · exact h' pins s σ H x y v u Q I rx ry q
abbrev rStr : R2 := fun x y H Q => ∃ i j, x = .str i ∧ y = .str j ∧ i.length + j.length ≤ sizeLine ∧ Q (.str (i ++ j)) H
def rAddA (K : PySem.W.Frag) : R2 := rOr (rI0 fun i j => .int (i + j)) (rOr rStr (rOr rCat (rCatA K)))
theorem op_addA {X : Cx} : OpR X (binaryOp .Add) (rAddA X.K) := op_or' op_add (op_or' op_add_str (op_or' op_cat op_catA))
def gAdd (a b : RV) : Rs RV := match a, b with
  | .d (.int i), .d (.int j) => okI (i + j)
  | .d (.str x), .d (.str y) => if x.length + y.length ≤ 1000000 then .ok (.d (.str (x ++ y))) else .no
  | .d (.tuple xs), .d (.tuple ys) => if xs.length + ys.length ≤ 1000000 then .ok (.d (.tuple (xs ++ ys))) else .no
  | a, b => match a.lv, b.lv with
    | some xs, some ys => if xs.length + ys.length ≤ 1000000 then .ok (.ol (xs ++ ys)) else .no
    | _, _ => .no
theorem gAdd_lv {xs ys : List PyData} {a b : RV} (e1 : a.lv = some xs) (e2 : b.lv = some ys) : gAdd a b = if xs.length + ys.length ≤ 1000000 then .ok (.ol (xs ++ ys)) else .no := by
  unfold gAdd
  split
  · cases e1
  · cases e1
  · cases e1
  · rw [e1, e2]
theorem s_add : Op2S K ca (rAddA K) gAdd := by
  intro W σ F0 H0 F H v1 v2 a b Q gr h1 h2 p
  unfold gAdd at p
  split at p
  · cases h1; cases h2; exact .inl ⟨_, _, rfl, rfl, p F H _ gr (.int _)⟩
  · cases h1; cases h2
    split at p
    · rename_i hz
      exact .inr (.inl ⟨_, _, rfl, rfl, Nat.le_of_lt (million hz), p F H _ gr (.str _)⟩)
    · exact p.elim
  · split at p
    · rename_i xs ys hz
      obtain ⟨p1, vs, rfl, a1, a1', q1⟩ := tv_ok gr.cfg.sub h1 rfl
      obtain ⟨p2, ws, rfl, a2, a2', q2⟩ := tv_ok gr.cfg.sub h2 rfl
      refine .inr (.inr (.inr ⟨p1, p2, vs, ws, rfl, rfl, a1, a2, ?_, fun e => ?_, fun e e' => ?_, fun e e' l hl => ?_⟩))
      · rw [q1.length, q2.length]; exact Nat.le_of_lt (million hz)
      · subst e
        have : xs = [] := by have := q1.length; cases xs with
          | nil => rfl
          | cons _ _ => simp at this
        subst this
        exact p F H _ gr (.tup a2' q2)
      · subst e'
        have : ys = [] := by have := q2.length; cases ys with
          | nil => rfl
          | cons _ _ => simp at this
        subst this
        exact p F H _ gr (by rw [List.append_nil]; exact .tup a1' q1)
      · have g2 := Grow.newF gr.cfg (.tup (vs ++ ws)) hl
        exact p _ _ _ (gr.trans g2) (.tup (.inl (.inl upd_same)) ((DqA.mono g2.ff _ _ q1).append (DqA.mono g2.ff _ _ q2)))
    · exact p.elim
  · split at p
    · rename_i xs ys e1 e2
      split at p
      · rename_i hz
        obtain ⟨p1, vs, rfl, a1, q1⟩ := lv_ok gr.cfg.sub h1 e1
        obtain ⟨p2, ws, rfl, a2, q2⟩ := lv_ok gr.cfg.sub h2 e2
        refine .inr (.inr (.inl ⟨p1, p2, vs, ws, rfl, rfl, a1, a2, ?_, fun l hl => ?_⟩))
        · rw [q1.length, q2.length]; exact Nat.le_of_lt (million hz)
        · have g2 := Grow.newO gr.cfg (.lst (vs ++ ws)) hl (fun _ z => by cases z)
          exact p _ _ _ (gr.trans g2) ⟨l, _, rfl, same_none gr.hh hl, same_none gr.cfg.sub hl, upd_same, q1.append q2⟩
      · exact p.elim
    · exact p.elim
/-! ### == and in -/
def gEq (a b : RV) : Rs RV := (rsO a.data).bind fun x => (rsO b.data).bind fun y => if SeqAt.shaped x = true ∧ SeqAt.shaped y = true then okB (PyData.eqv x y) else .no
def gNe (a b : RV) : Rs RV := (rsO a.data).bind fun x => (rsO b.data).bind fun y => if SeqAt.shaped x = true ∧ SeqAt.shaped y = true then okB (!PyData.eqv x y) else .no
theorem s_eq : Op2S K ca (rEqD K) gEq := by
  intro W σ F0 H0 F H v1 v2 a b Q gr h1 h2 p
  unfold gEq at p
  cases e1 : a.data with
  | none => rw [e1] at p; exact p.elim
  | some x => cases e2 : b.data with
    | none => rw [e1, e2] at p; exact p.elim
    | some y =>
      rw [e1, e2] at p
      simp only [rsO_some, Rs.bind_ok] at p
      split at p
      · rename_i s; exact ⟨x, y, data_ok gr.cfg.sub h1 e1, data_ok gr.cfg.sub h2 e2, s.1, s.2, p F H _ gr (.bl _)⟩
      · exact p.elim
theorem s_ne : Op2S K ca (rNeD K) gNe := by
  intro W σ F0 H0 F H v1 v2 a b Q gr h1 h2 p
  unfold gNe at p
  cases e1 : a.data with
  | none => rw [e1] at p; exact p.elim
  | some x => cases e2 : b.data with
    | none => rw [e1, e2] at p; exact p.elim
    | some y =>
      rw [e1, e2] at p
      simp only [rsO_some, Rs.bind_ok] at p
      split at p
      · rename_i s; exact ⟨x, y, data_ok gr.cfg.sub h1 e1, data_ok gr.cfg.sub h2 e2, s.1, s.2, p F H _ gr (.bl _)⟩
      · exact p.elim
def rInT (K : PySem.W.Frag) : R2 := fun x y H Q => ∃ d ds, Dp K H x d ∧ Dp K H y (.tuple ds) ∧ SeqAt.shaped d = true ∧ SeqAt.shaped (.tuple ds) = true ∧ Q (.bl (ds.any fun z => PyData.eqv z d)) H
def rNotInT (K : PySem.W.Frag) : R2 := fun x y H Q => ∃ d ds, Dp K H x d ∧ Dp K H y (.tuple ds) ∧ SeqAt.shaped d = true ∧ SeqAt.shaped (.tuple ds) = true ∧ Q (.bl (!ds.any fun z => PyData.eqv z d)) H
theorem op_inT {X : Cx} (hu : X.A.units + 65 < cLine) : OpR X (compareOp .In) (rInT X.K) := by
  intro pins s σ H x y v u Q I rx ry h
  obtain ⟨d, ds, hd, he, sd, se, q⟩ := h
  obtain ⟨as, r1⟩ := Dp.reads I d x v hd rx
  obtain ⟨bs, r2⟩ := Dp.reads I (.tuple ds) y u he ry
  exact SeqAt.in_tuple_reads r2 r1 (SeqAt.canLay_of_shaped se) (SeqAt.canLay_of_shaped sd) (PyProof.Rows.room_in_shaped sd hu) ⟨.bl _, H, I, rfl, q⟩
theorem op_notInT {X : Cx} (hu : X.A.units + 65 < cLine) : OpR X (compareOp .NotIn) (rNotInT X.K) := by
  intro pins s σ H x y v u Q I rx ry h
  obtain ⟨d, ds, hd, he, sd, se, q⟩ := h
  obtain ⟨as, r1⟩ := Dp.reads I d x v hd rx
  obtain ⟨bs, r2⟩ := Dp.reads I (.tuple ds) y u he ry
  exact SeqAt.notIn_tuple_reads r2 r1 (SeqAt.canLay_of_shaped se) (SeqAt.canLay_of_shaped sd) (PyProof.Rows.room_in_shaped sd hu) ⟨.bl _, H, I, rfl, q⟩
abbrev rSubS : R2 := fun x y H Q => ∃ i j, x = .str i ∧ y = .str j ∧ Q (.bl (!(Builtin.Str.occurrences j i 0 j.length 1).isEmpty)) H
abbrev rNSubS : R2 := fun x y H Q => ∃ i j, x = .str i ∧ y = .str j ∧ Q (.bl (!(!(Builtin.Str.occurrences j i 0 j.length 1).isEmpty))) H
def rInA (K : PySem.W.Frag) : R2 := rOr (rInD K) (rOr (rInT K) rSubS)
def rNotInA (K : PySem.W.Frag) : R2 := rOr (rNotInD K) (rOr (rNotInT K) rNSubS)
theorem op_inA {X : Cx} (hu : X.A.units + 65 < cLine) : OpR X (compareOp .In) (rInA X.K) := op_or' (op_inD hu) (op_or' (op_inT hu) op_in_str)
theorem op_notInA {X : Cx} (hu : X.A.units + 65 < cLine) : OpR X (compareOp .NotIn) (rNotInA X.K) := op_or' (op_notInD hu) (op_or' (op_notInT hu) op_notin_str)
theorem hu65 {A : Around} {k : Nat} (hr : Room k A) : A.units + 65 < cLine := by have := hr.un; omega
def gInB (a b : RV) : Rs Bool := match a, b with
  | .d (.str x), .d (.str y) => .ok (!(Builtin.Str.occurrences y x 0 y.length 1).isEmpty)
  | a, .d (.tuple ds) => (rsO a.data).bind fun x => if SeqAt.shaped x = true ∧ SeqAt.shaped (.tuple ds) = true then .ok (ds.any fun z => PyData.eqv z x) else .no
  | a, b => (rsO a.data).bind fun x => (rsO b.data).bind fun y => match y with
    | .list ds => if SeqAt.shaped x = true ∧ SeqAt.shaped (.list ds) = true then .ok (ds.any fun z => PyData.eqv z x) else .no
    | _ => .no
def gIn (a b : RV) : Rs RV := (gInB a b).bind okB
def gNotIn (a b : RV) : Rs RV := (gInB a b).bind fun k => okB (!k)
theorem gInB_sound {v1 v2 : V} {a b : RV} {α : Type} {P : Rs α → Prop} {k : Bool → Rs α} (s : Same F H) (h1 : RVok K H0 F H v1 a) (h2 : RVok K H0 F H v2 b) (hn : ¬ P .no) (p : P ((gInB a b).bind k)) :
    (∃ d ds, Dp K H v1 d ∧ Dp K H v2 (.list ds) ∧ SeqAt.shaped d = true ∧ SeqAt.shaped (.list ds) = true ∧ P (k (ds.any fun z => PyData.eqv z d))) ∨
    (∃ d ds, Dp K H v1 d ∧ Dp K H v2 (.tuple ds) ∧ SeqAt.shaped d = true ∧ SeqAt.shaped (.tuple ds) = true ∧ P (k (ds.any fun z => PyData.eqv z d))) ∨
    ∃ i j, v1 = .str i ∧ v2 = .str j ∧ P (k (!(Builtin.Str.occurrences j i 0 j.length 1).isEmpty)) := by
  unfold gInB at p
  split at p
  · cases h1; cases h2; exact .inr (.inr ⟨_, _, rfl, rfl, p⟩)
  · rename_i ds
    cases e1 : a.data with
    | none => rw [e1] at p; exact absurd p hn
    | some x =>
      rw [e1] at p
      simp only [rsO_some, Rs.bind_ok] at p
      split at p
      · rename_i z; exact .inr (.inl ⟨x, ds, data_ok s h1 e1, data_ok s h2 rfl, z.1, z.2, p⟩)
      · exact absurd p hn
  · cases e1 : a.data with
    | none => rw [e1] at p; exact absurd p hn
    | some x => cases e2 : b.data with
      | none => rw [e1, e2] at p; exact absurd p hn
      | some y =>
        rw [e1, e2] at p
        simp only [rsO_some, Rs.bind_ok] at p
        split at p
        · split at p
          · rename_i z; exact .inl ⟨x, _, data_ok s h1 e1, data_ok s h2 e2, z.1, z.2, p⟩
          · exact absurd p hn
        · exact absurd p hn
theorem s_in : Op2S K ca (rInA K) gIn := by
  intro W σ F0 H0 F H v1 v2 a b Q gr h1 h2 p
  rcases gInB_sound (P := PostE K ca W σ F0 H0 Q) gr.cfg.sub h1 h2 (fun h => h) p with ⟨d, ds, q1, q2, q3, q4, q5⟩ | ⟨d, ds, q1, q2, q3, q4, q5⟩ | ⟨i, j, e1, e2, q5⟩
  · exact .inl ⟨d, ds, q1, q2, q3, q4, q5 F H _ gr (.bl _)⟩
  · exact .inr (.inl ⟨d, ds, q1, q2, q3, q4, q5 F H _ gr (.bl _)⟩)
  · exact .inr (.inr ⟨i, j, e1, e2, q5 F H _ gr (.bl _)⟩)
theorem s_notIn : Op2S K ca (rNotInA K) gNotIn := by
  intro W σ F0 H0 F H v1 v2 a b Q gr h1 h2 p
  rcases gInB_sound (P := PostE K ca W σ F0 H0 Q) gr.cfg.sub h1 h2 (fun h => h) p with ⟨d, ds, q1, q2, q3, q4, q5⟩ | ⟨d, ds, q1, q2, q3, q4, q5⟩ | ⟨i, j, e1, e2, q5⟩
  · exact .inl ⟨d, ds, q1, q2, q3, q4, q5 F H _ gr (.bl _)⟩
  · exact .inr (.inl ⟨d, ds, q1, q2, q3, q4, q5 F H _ gr (.bl _)⟩)
  · exact .inr (.inr ⟨i, j, e1, e2, q5 F H _ gr (.bl _)⟩)
/-- is None -/
def isNone : RV → Bool
  | .d .none => true
  | _ => false
def gIs (a b : RV) : Rs RV := match b with
  | .d .none => okB (isNone a)
  | _ => .no
def gIsNot (a b : RV) : Rs RV := match b with
  | .d .none => okB (!isNone a)
  | _ => .no
theorem isNone_ok (h : RVok K H0 F H v r) : decide (v = .non) = isNone r := by
  cases r with
  | d x => cases x <;> cases h <;> rfl
  | ol xs => obtain ⟨p, vs, rfl, _⟩ := h; rfl
  | bl xs => obtain ⟨p, vs, rfl, _⟩ := h; rfl
  | od xs => obtain ⟨p, vs, rfl, _⟩ := h; rfl
  | bd xs => obtain ⟨p, vs, rfl, _⟩ := h; rfl
  | ot xs => obtain ⟨p, vs, rfl, _⟩ := h; rfl
  | bt xs => obtain ⟨p, vs, rfl, _⟩ := h; rfl
  | sc ns => obtain ⟨a, rfl, _⟩ := h; rfl
  | xo a dd c fs => obtain ⟨rfl, _⟩ := h; rfl
theorem s_is : Op2S K ca (fun x y H Q => y = .non ∧ Q (.bl (decide (x = .non))) H) gIs := by
  intro W σ F0 H0 F H v1 v2 a b Q gr h1 h2 p
  unfold gIs at p
  split at p
  · cases h2; exact ⟨rfl, by rw [isNone_ok h1]; exact p F H _ gr (.bl _)⟩
  · exact p.elim
theorem s_isNot : Op2S K ca (fun x y H Q => y = .non ∧ Q (.bl (!decide (x = .non))) H) gIsNot := by
  intro W σ F0 H0 F H v1 v2 a b Q gr h1 h2 p
  unfold gIsNot at p
  split at p
  · cases h2; exact ⟨rfl, by rw [isNone_ok h1]; exact p F H _ gr (.bl _)⟩
  · exact p.elim
/-! ### subscripts -/
def RV.sq (r : RV) : Option (List PyData) := match r with
  | .d (.tuple xs) => some xs
  | r => r.qv
def gIx (a b : RV) : Rs RV := match b with
  | .d (.int i) => (match a with
    | .d (.str z) => if z.length ≤ 1000000 then (rsO (atI z.cps.toList i)).bind fun c => .ok (.d (.str ⟨#[c]⟩)) else .no
    | a => (rsO a.sq).bind fun xs => (rsO (atI xs i)).bind fun d => .ok (.d d))
  | _ => .no
theorem s_ix : Op2S K ca (rIx K) gIx := by
  intro W σ F0 H0 F H v1 v2 a b Q gr h1 h2 p
  unfold gIx at p
  split at p
  · rename_i i
    cases h2
    split at p
    · rename_i z
      cases h1
      split at p
      · rename_i hz
        cases e : atI z.cps.toList i with
        | none => rw [e] at p; exact p.elim
        | some c => rw [e] at p; exact .inr (.inr ⟨z, i, c, rfl, rfl, Nat.le_of_lt (million hz), e, p F H _ gr (.str _)⟩)
      · exact p.elim
    · cases e : a.sq with
      | none => rw [e] at p; exact p.elim
      | some xs =>
        rw [e] at p
        simp only [rsO_some, Rs.bind_ok] at p
        cases e2 : atI xs i with
        | none => rw [e2] at p; exact p.elim
        | some d =>
          rw [e2] at p
          by_cases ht : a.tv = some xs
          · obtain ⟨p1, vs, rfl, a1, _, q1⟩ := tv_ok gr.cfg.sub h1 ht
            obtain ⟨w, e3, q3⟩ := atI_dq q1 e2
            exact .inr (.inl ⟨p1, vs, i, w, rfl, rfl, a1, e3, p F H _ gr q3⟩)
          · have eq : a.qv = some xs := by
              unfold RV.sq at e
              split at e
              · exact absurd (by exact e) ht
              · exact e
            obtain ⟨p1, vs, rfl, a1, q1⟩ := qv_ok gr.cfg.sub h1 eq
            obtain ⟨w, e3, q3⟩ := atI_dq q1 e2
            exact .inl ⟨p1, vs, i, w, rfl, rfl, a1, e3, p F H _ gr q3⟩
  · exact p.elim
/-! ### slices -/
def cutL {α : Type} (xs : List α) (lo hi : Option Int) : List α := (xs.drop (HT.sIx xs.length 0 lo)).take (HT.sIx xs.length xs.length hi - HT.sIx xs.length 0 lo)
theorem cut_dq {vs : List V} (h : DqA K F vs xs) (lo hi : Option Int) : DqA K F (cutV vs lo hi) (cutL xs lo hi) := by
  unfold cutV cutL
  rw [h.length]
  exact (h.drop _).take _
def gSl (a : RV) (lo hi : Option Int) : Rs RV := match a with
  | .d (.str z) => if z.length ≤ 1000000 then .ok (.d (.str (cutS z lo hi))) else .no
  | .d (.tuple xs) => .ok (.d (.tuple (cutL xs lo hi)))
  | a => (rsO a.qv).bind fun xs => .ok (.ol (cutL xs lo hi))
def rSlAll (K : PySem.W.Frag) : V → Option Int → Option Int → Hp → VK → Prop := fun x lo hi H Q => rSlS x lo hi H Q ∨ (rSlA K x lo hi H Q ∨ rSlL K x lo hi H Q)
theorem sl_all {X : Cx} : SlR X (rSlAll X.K) := SlR.or sl_str (SlR.or sl_tupA sl_list)
theorem s_sl {W : WX} {σ : L2.St} {F0 H0' : Hp} {lo hi : Option Int} {Q : VK} (gr : Grow F0 H0' F H) (h : RVok K H0' F H v r) (p : PostE K ca W σ F0 H0' Q (gSl r lo hi)) : rSlAll K v lo hi H Q := by
  unfold gSl at p
  split at p
  · cases h
    split at p
    · rename_i hz
      exact .inl ⟨_, rfl, Nat.le_of_lt (million hz), p F H _ gr (.str _)⟩
    · exact p.elim
  · rename_i xs
    obtain ⟨p1, vs, rfl, a1, a2, q1⟩ := tv_ok gr.cfg.sub h rfl
    refine .inr (.inl ⟨p1, vs, rfl, a1, fun e => ?_, fun e l hl => ?_⟩)
    · have ew : cutL xs lo hi = xs := by
        unfold cutL
        rw [q1.length] at e
        rw [e.1, e.2]
        simp
      exact p F H _ gr (by rw [ew]; exact .tup a2 q1)
    · have g2 := Grow.newF gr.cfg (.tup (cutV vs lo hi)) hl
      exact p _ _ _ (gr.trans g2) (.tup (.inl (.inl upd_same)) (DqA.mono g2.ff _ _ (cut_dq q1 lo hi)))
  · cases e : r.qv with
    | none => rw [e] at p; exact p.elim
    | some xs =>
      rw [e] at p
      obtain ⟨p1, vs, rfl, a1, q1⟩ := qv_ok gr.cfg.sub h e
      refine .inr (.inr ⟨p1, vs, rfl, a1, fun l hl => ?_⟩)
      have g2 := Grow.newO gr.cfg (.lst (cutV vs lo hi)) hl (fun _ z => by cases z)
      exact p _ _ _ (gr.trans g2) ⟨l, _, rfl, same_none gr.hh hl, same_none gr.cfg.sub hl, upd_same, cut_dq q1 lo hi⟩
end
end VL

namespace VL
open PySem PySem.Spec PyProof.Rows L2

/-! ## built-in functions -/
section
variable {K : PySem.W.Frag} {ca : Nat → Addr}
theorem pr1 {P : V → RV → Prop} {vs : List V} {r : RV} (h : Paired P vs [r]) : ∃ v, vs = [v] ∧ P v r := by
  cases h with
  | cons h1 h2 => cases h2; exact ⟨_, rfl, h1⟩
theorem pr2 {P : V → RV → Prop} {vs : List V} {r r' : RV} (h : Paired P vs [r, r']) : ∃ v w, vs = [v, w] ∧ P v r ∧ P w r' := by
  cases h with
  | cons h1 h2 => cases h2 with
    | cons h3 h4 => cases h4; exact ⟨_, _, rfl, h1, h3⟩
/-- a sequence that is read -/
theorem sq_ok {H0 F H : Hp} {v : V} {r : RV} {xs : List PyData} (s : Same F H) (h : RVok K H0 F H v r) (e : r.sq = some xs) : ∃ p vs, v = .ref p ∧ (SqL K H p vs ∨ SqT K H p vs) ∧ DqA K F vs xs := by
  by_cases ht : r.tv = some xs
  · obtain ⟨p1, vs, e1, a1, _, q1⟩ := tv_ok s h ht
    exact ⟨p1, vs, e1, .inr a1, q1⟩
  · have eq : r.qv = some xs := by
      unfold RV.sq at e
      split at e
      · exact absurd (by exact e) ht
      · exact e
    obtain ⟨p1, vs, e1, a1, q1⟩ := qv_ok s h eq
    exact ⟨p1, vs, e1, .inl a1, q1⟩
def gLen : List RV → Rs RV
  | [.d (.str z)] => if z.length ≤ 1000000 then okI z.length else .no
  | [.bd kvs] => okI kvs.length
  | [.od kvs] => okI kvs.length
  | [r] => (rsO r.sq).bind fun xs => okI xs.length
  | _ => .no
def rOrC (r r' : List V → Hp → VK → Prop) : List V → Hp → VK → Prop := fun xs H Q => r xs H Q ∨ r' xs H Q
abbrev rLenS (K : PySem.W.Frag) : List V → Hp → VK → Prop := fun xs H Q => ∃ p ys, xs = [.ref p] ∧ (SqL K H p ys ∨ SqT K H p ys) ∧ Q (.int ys.length) H
abbrev rLenT : List V → Hp → VK → Prop := fun xs H Q => ∃ z, xs = [.str z] ∧ z.length ≤ sizeLine ∧ Q (.int z.length) H
abbrev rLenD : List V → Hp → VK → Prop := fun xs H Q => ∃ p kvs, xs = [.ref p] ∧ H p = some (.dK kvs) ∧ Q (.int kvs.length) H
theorem call_lenD' {X : Cx} : CallR X (.builtin "len") rLenD := by
  intro pins s σ H xs us Q I r h
  obtain ⟨p, kvs, e, hp, q⟩ := h
  exact call_lenD pins s σ H xs us Q I r ⟨p, kvs, e, hp, q⟩
theorem call_lenA {X : Cx} : CallR X (.builtin "len") (fun xs H Q => rLenS X.K xs H Q ∨ (rLenT xs H Q ∨ rLenD xs H Q)) := CallR.or call_len_seq (CallR.or call_len_str call_lenD')
theorem KD.length {κ : Type} {F : Hp} : ∀ {a : List (κ × V)} {b : List (κ × PyData)}, KD K F a b → a.length = b.length := fun h => Paired.length h
theorem c_len : CaS K ca (fun xs H Q => rLenS K xs H Q ∨ (rLenT xs H Q ∨ rLenD xs H Q)) gLen := by
  intro W σ F0 H0 F H vs as Q gr h p
  unfold gLen at p
  split at p
  · obtain ⟨v, rfl, hx⟩ := pr1 h
    cases hx
    split at p
    · rename_i hz; exact .inr (.inl ⟨_, rfl, Nat.le_of_lt (million hz), p F H _ gr (.int _)⟩)
    · exact p.elim
  · obtain ⟨v, rfl, q, ks, rfl, hp, kd⟩ := pr1 h
    exact .inr (.inr ⟨q, ks, rfl, hp, by rw [kd.length]; exact p F H _ gr (.int _)⟩)
  · obtain ⟨v, rfl, q, ks, rfl, _, _, hp, kd⟩ := pr1 h
    exact .inr (.inr ⟨q, ks, rfl, hp, by rw [kd.length]; exact p F H _ gr (.int _)⟩)
  · rename_i r _ _ _
    obtain ⟨v, rfl, hx⟩ := pr1 h
    cases e : r.sq with
    | none => rw [e] at p; exact p.elim
    | some xs =>
      rw [e] at p
      obtain ⟨q, ws, rfl, hq, dq⟩ := sq_ok gr.cfg.sub hx e
      exact .inl ⟨q, ws, rfl, hq, by rw [dq.length]; exact p F H _ gr (.int _)⟩
  · exact p.elim
def gTupleC : List RV → Rs RV
  | [r] => (match r.tv with
    | some xs => .ok (.d (.tuple xs))
    | none => (rsO r.qv).bind fun xs => .ok (.d (.tuple xs)))
  | _ => .no
theorem c_tuple : CaS K ca (fun xs H Q => ∃ p ys, xs = [.ref p] ∧ ((SqL K H p ys ∧ ∀ l, H l = none → Q (.ref l) (upd H l (.tup ys))) ∨ (SqT K H p ys ∧ Q (.ref p) H))) gTupleC := by
  intro W σ F0 H0 F H vs as Q gr h p
  unfold gTupleC at p
  split at p
  · rename_i r
    obtain ⟨v, rfl, hx⟩ := pr1 h
    cases e : r.tv with
    | some xs =>
      rw [e] at p
      obtain ⟨q, ws, rfl, a1, a2, dq⟩ := tv_ok gr.cfg.sub hx e
      exact ⟨q, ws, rfl, .inr ⟨a1, p F H _ gr (.tup a2 dq)⟩⟩
    | none =>
      rw [e] at p
      simp only at p
      cases e2 : r.qv with
      | none => rw [e2] at p; exact p.elim
      | some xs =>
        rw [e2] at p
        obtain ⟨q, ws, rfl, a1, dq⟩ := qv_ok gr.cfg.sub hx e2
        refine ⟨q, ws, rfl, .inl ⟨a1, fun l hl => ?_⟩⟩
        have g2 := Grow.newF gr.cfg (.tup ws) hl
        exact p _ _ _ (gr.trans g2) (.tup (.inl (.inl upd_same)) (DqA.mono g2.ff _ _ dq))
  · exact p.elim
def gListC : List RV → Rs RV
  | [r] => (rsO r.sq).bind fun xs => .ok (.ol xs)
  | _ => .no
theorem c_list : CaS K ca (fun xs H Q => ∃ p ys, xs = [.ref p] ∧ (SqL K H p ys ∨ SqT K H p ys) ∧ ∀ l, H l = none → Q (.ref l) (upd H l (.lst ys))) gListC := by
  intro W σ F0 H0 F H vs as Q gr h p
  unfold gListC at p
  split at p
  · rename_i r
    obtain ⟨v, rfl, hx⟩ := pr1 h
    cases e : r.sq with
    | none => rw [e] at p; exact p.elim
    | some xs =>
      rw [e] at p
      obtain ⟨q, ws, rfl, hq, dq⟩ := sq_ok gr.cfg.sub hx e
      refine ⟨q, ws, rfl, hq, fun l hl => ?_⟩
      have g2 := Grow.newO gr.cfg (.lst ws) hl (fun _ z => by cases z)
      exact p _ _ _ (gr.trans g2) ⟨l, _, rfl, same_none gr.hh hl, same_none gr.cfg.sub hl, upd_same, dq⟩
  · exact p.elim
def gMin2 : List RV → Rs RV
  | [.d (.int i), .d (.int j)] => okI (if j < i then j else i)
  | _ => .no
def gMax2 : List RV → Rs RV
  | [.d (.int i), .d (.int j)] => okI (if j > i then j else i)
  | _ => .no
theorem c_min2 : CaS K ca (fun xs H Q => ∃ i j, xs = [.int i, .int j] ∧ Q (.int (if j < i then j else i)) H) gMin2 := by
  intro W σ F0 H0 F H vs as Q gr h p
  unfold gMin2 at p
  split at p
  · obtain ⟨v, w, rfl, h1, h2⟩ := pr2 h
    cases h1; cases h2
    exact ⟨_, _, rfl, p F H _ gr (.int _)⟩
  · exact p.elim
theorem c_max2 : CaS K ca (fun xs H Q => ∃ i j, xs = [.int i, .int j] ∧ Q (.int (if j > i then j else i)) H) gMax2 := by
  intro W σ F0 H0 F H vs as Q gr h p
  unfold gMax2 at p
  split at p
  · obtain ⟨v, w, rfl, h1, h2⟩ := pr2 h
    cases h1; cases h2
    exact ⟨_, _, rfl, p F H _ gr (.int _)⟩
  · exact p.elim
/-! ### lists of ints, of truth values -/
def intsD : List PyData → Option (List Int)
  | [] => some []
  | .int i :: xs => (intsD xs).map (i :: ·)
  | _ => none
def boolsD : List PyData → Option (List Bool)
  | [] => some []
  | .bool i :: xs => (boolsD xs).map (i :: ·)
  | _ => none
theorem ints_ok {F : Hp} : ∀ {xs : List PyData} {vs : List V} {ns : List Int}, DqA K F vs xs → intsD xs = some ns → vs = ns.map V.int
  | [], _, ns, h, e => by cases h; cases e; rfl
  | x :: xs, _, ns, h, e => by
    cases h with
    | cons h1 h2 =>
      cases x with
      | int i =>
        cases e2 : intsD xs with
        | none => simp [intsD, e2] at e
        | some ms => simp [intsD, e2] at e; subst e; cases h1; rw [ints_ok h2 e2]; rfl
      | _ => cases e
theorem bools_ok {F : Hp} : ∀ {xs : List PyData} {vs : List V} {ns : List Bool}, DqA K F vs xs → boolsD xs = some ns → vs = ns.map V.bl
  | [], _, ns, h, e => by cases h; cases e; rfl
  | x :: xs, _, ns, h, e => by
    cases h with
    | cons h1 h2 =>
      cases x with
      | bool i =>
        cases e2 : boolsD xs with
        | none => simp [boolsD, e2] at e
        | some ms => simp [boolsD, e2] at e; subst e; cases h1; rw [bools_ok h2 e2]; rfl
      | _ => cases e
@[simp] theorem intsD_map (ns : List Int) : intsD (ns.map .int) = some ns := by
  induction ns with
  | nil => rfl
  | cons i ns ih => simp [intsD, ih]
@[simp] theorem boolsD_map (ns : List Bool) : boolsD (ns.map .bool) = some ns := by
  induction ns with
  | nil => rfl
  | cons i ns ih => simp [boolsD, ih]
def ins (x : Int) : List Int → List Int
  | [] => [x]
  | y :: ys => if x ≤ y then x :: y :: ys else y :: ins x ys
def isort : List Int → List Int
  | [] => []
  | x :: xs => ins x (isort xs)
theorem ins_perm (x : Int) : ∀ ys, (ins x ys).Perm (x :: ys)
  | [] => .refl _
  | y :: ys => by
    unfold ins
    split
    · exact .refl _
    · exact ((ins_perm x ys).cons y).trans (.swap x y ys)
theorem isort_perm : ∀ xs, (isort xs).Perm xs
  | [] => .refl _
  | x :: xs => (ins_perm x _).trans ((isort_perm xs).cons x)
theorem ins_sorted (x : Int) : ∀ {ys : List Int}, ys.Pairwise (· ≤ ·) → (ins x ys).Pairwise (· ≤ ·)
  | [], _ => by simp [ins]
  | y :: ys, h => by
    have h1 := List.pairwise_cons.mp h
    unfold ins
    split
    · rename_i c
      refine List.pairwise_cons.mpr ⟨fun z hz => ?_, h⟩
      rcases List.mem_cons.mp hz with rfl | hz
      · exact c
      · exact Int.le_trans c (h1.1 z hz)
    · rename_i c
      refine List.pairwise_cons.mpr ⟨fun z hz => ?_, ins_sorted x h1.2⟩
      rcases List.mem_cons.mp ((ins_perm x ys).mem_iff.mp hz) with rfl | hz
      · omega
      · exact h1.1 z hz
theorem isort_sorted : ∀ xs, (isort xs).Pairwise (· ≤ ·)
  | [] => .nil
  | x :: xs => ins_sorted x (isort_sorted xs)
theorem sorted_uniq : ∀ {xs ys : List Int}, xs.Perm ys → xs.Pairwise (· ≤ ·) → ys.Pairwise (· ≤ ·) → xs = ys
  | [], ys, p, _, _ => (List.Perm.nil_eq p)
  | x :: xs, [], p, _, _ => by have := p.length_eq; simp at this
  | x :: xs, y :: ys, p, h1, h2 => by
    have a1 := List.pairwise_cons.mp h1
    have a2 := List.pairwise_cons.mp h2
    have e : x = y := by
      have m1 : x ∈ y :: ys := p.mem_iff.mp List.mem_cons_self
      have m2 : y ∈ x :: xs := p.mem_iff.mpr List.mem_cons_self
      rcases List.mem_cons.mp m1 with z | z
      · exact z
      · rcases List.mem_cons.mp m2 with z' | z'
        · exact z'.symm
        · have := a1.1 y z'; have := a2.1 x z; omega
    subst e
    rw [sorted_uniq ((List.perm_cons x).mp p) a1.2 a2.2]
def gSorted : List RV → Rs RV
  | [r] => (rsO r.qv).bind fun xs => (rsO (intsD xs)).bind fun ns => .ok (.ol ((isort ns).map .int))
  | _ => .no
theorem c_sorted : CaS K ca (rSortedI K) gSorted := by
  intro W σ F0 H0 F H vs as Q gr h p
  unfold gSorted at p
  split at p
  · rename_i r
    obtain ⟨v, rfl, hx⟩ := pr1 h
    cases e : r.qv with
    | none => rw [e] at p; exact p.elim
    | some xs =>
      rw [e] at p
      simp only [rsO_some, Rs.bind_ok] at p
      cases e2 : intsD xs with
      | none => rw [e2] at p; exact p.elim
      | some ns =>
        rw [e2] at p
        obtain ⟨q, ws, rfl, hq, dq⟩ := qv_ok gr.cfg.sub hx e
        have := ints_ok dq e2
        subst this
        refine ⟨q, ns, rfl, hq, fun ns' l pm so hl => ?_⟩
        have e3 : ns' = isort ns := sorted_uniq (pm.trans (isort_perm ns).symm) so (isort_sorted ns)
        subst e3
        have g2 := Grow.newO gr.cfg (.lst ((isort ns).map V.int)) hl (fun _ z => by cases z)
        exact p _ _ _ (gr.trans g2) ⟨l, _, rfl, same_none gr.hh hl, same_none gr.cfg.sub hl, upd_same, DqA.of_ints _⟩
  · exact p.elim
def gAny : List RV → Rs RV
  | [r] => (rsO r.qv).bind fun xs => (rsO (boolsD xs)).bind fun bs => okB (bs.any id)
  | _ => .no
def gAll : List RV → Rs RV
  | [r] => (rsO r.qv).bind fun xs => (rsO (boolsD xs)).bind fun bs => okB (bs.all id)
  | _ => .no
def gSum : List RV → Rs RV
  | [r] => (rsO r.qv).bind fun xs => (rsO (intsD xs)).bind fun bs => okI bs.sum
  | _ => .no
theorem c_any : CaS K ca (rAny K) gAny := by
  intro W σ F0 H0 F H vs as Q gr h p
  unfold gAny at p
  split at p
  · rename_i r
    obtain ⟨v, rfl, hx⟩ := pr1 h
    cases e : r.qv with
    | none => rw [e] at p; exact p.elim
    | some xs =>
      rw [e] at p
      simp only [rsO_some, Rs.bind_ok] at p
      cases e2 : boolsD xs with
      | none => rw [e2] at p; exact p.elim
      | some ns =>
        rw [e2] at p
        obtain ⟨q, ws, rfl, hq, dq⟩ := qv_ok gr.cfg.sub hx e
        have := bools_ok dq e2
        subst this
        exact ⟨q, ns, rfl, hq, p F H _ gr (.bl _)⟩
  · exact p.elim
theorem c_all : CaS K ca (rAll K) gAll := by
  intro W σ F0 H0 F H vs as Q gr h p
  unfold gAll at p
  split at p
  · rename_i r
    obtain ⟨v, rfl, hx⟩ := pr1 h
    cases e : r.qv with
    | none => rw [e] at p; exact p.elim
    | some xs =>
      rw [e] at p
      simp only [rsO_some, Rs.bind_ok] at p
      cases e2 : boolsD xs with
      | none => rw [e2] at p; exact p.elim
      | some ns =>
        rw [e2] at p
        obtain ⟨q, ws, rfl, hq, dq⟩ := qv_ok gr.cfg.sub hx e
        have := bools_ok dq e2
        subst this
        exact ⟨q, ns, rfl, hq, p F H _ gr (.bl _)⟩
  · exact p.elim
theorem c_sum : CaS K ca (rSum K) gSum := by
  intro W σ F0 H0 F H vs as Q gr h p
  unfold gSum at p
  split at p
  · rename_i r
    obtain ⟨v, rfl, hx⟩ := pr1 h
    cases e : r.qv with
    | none => rw [e] at p; exact p.elim
    | some xs =>
      rw [e] at p
      simp only [rsO_some, Rs.bind_ok] at p
      cases e2 : intsD xs with
      | none => rw [e2] at p; exact p.elim
      | some ns =>
        rw [e2] at p
        obtain ⟨q, ws, rfl, hq, dq⟩ := qv_ok gr.cfg.sub hx e
        have := ints_ok dq e2
        subst this
        exact ⟨q, ns, rfl, hq, p F H _ gr (.int _)⟩
  · exact p.elim
/-- the greatest, the least of a list of ints -/
def maxL : List Int → Option Int
  | [] => none
  | x :: xs => some (xs.foldl (fun a b => if b > a then b else a) x)
def minL : List Int → Option Int
  | [] => none
  | x :: xs => some (xs.foldl (fun a b => if b < a then b else a) x)
theorem fold_max (xs : List Int) : ∀ x, (xs.foldl (fun a b => if b > a then b else a) x) ∈ x :: xs ∧ ∀ y ∈ x :: xs, y ≤ xs.foldl (fun a b => if b > a then b else a) x := by
  induction xs with
  | nil => intro x; simp
  | cons z xs ih =>
    intro x
    simp only [List.foldl_cons]
    by_cases c : z > x
    · rw [if_pos c]
      obtain ⟨i1, i2⟩ := ih z
      refine ⟨List.mem_cons_of_mem _ i1, fun y hy => ?_⟩
      rcases List.mem_cons.mp hy with rfl | hy
      · have := i2 z List.mem_cons_self; omega
      · exact i2 y hy
    · rw [if_neg c]
      obtain ⟨i1, i2⟩ := ih x
      refine ⟨?_, fun y hy => ?_⟩
      · rcases List.mem_cons.mp i1 with e | e
        · rw [e]; exact List.mem_cons_self
        · exact List.mem_cons_of_mem _ (List.mem_cons_of_mem _ e)
      · rcases List.mem_cons.mp hy with rfl | hy
        · exact i2 y List.mem_cons_self
        · rcases List.mem_cons.mp hy with rfl | hy
          · have := i2 x List.mem_cons_self; omega
          · exact i2 y (List.mem_cons_of_mem _ hy)
theorem fold_min (xs : List Int) : ∀ x, (xs.foldl (fun a b => if b < a then b else a) x) ∈ x :: xs ∧ ∀ y ∈ x :: xs, xs.foldl (fun a b => if b < a then b else a) x ≤ y := by
  induction xs with
  | nil => intro x; simp
  | cons z xs ih =>
    intro x
    simp only [List.foldl_cons]
    by_cases c : z < x
    · rw [if_pos c]
      obtain ⟨i1, i2⟩ := ih z
      refine ⟨List.mem_cons_of_mem _ i1, fun y hy => ?_⟩
      rcases List.mem_cons.mp hy with rfl | hy
      · have := i2 z List.mem_cons_self; omega
      · exact i2 y hy
    · rw [if_neg c]
      obtain ⟨i1, i2⟩ := ih x
      refine ⟨?_, fun y hy => ?_⟩
      · rcases List.mem_cons.mp i1 with e | e
        · rw [e]; exact List.mem_cons_self
        · exact List.mem_cons_of_mem _ (List.mem_cons_of_mem _ e)
      · rcases List.mem_cons.mp hy with rfl | hy
        · exact i2 y List.mem_cons_self
        · rcases List.mem_cons.mp hy with rfl | hy
          · have := i2 x List.mem_cons_self; omega
          · exact i2 y (List.mem_cons_of_mem _ hy)
def gMax1 : List RV → Rs RV
  | [r] => (rsO r.qv).bind fun xs => (rsO (intsD xs)).bind fun bs => (rsO (maxL bs)).bind okI
  | _ => .no
def gMin1 : List RV → Rs RV
  | [r] => (rsO r.qv).bind fun xs => (rsO (intsD xs)).bind fun bs => (rsO (minL bs)).bind okI
  | _ => .no
theorem c_max1 : CaS K ca (rMax K) gMax1 := by
  intro W σ F0 H0 F H vs as Q gr h p
  unfold gMax1 at p
  split at p
  · rename_i r
    obtain ⟨v, rfl, hx⟩ := pr1 h
    cases e : r.qv with
    | none => rw [e] at p; exact p.elim
    | some xs =>
      rw [e] at p
      simp only [rsO_some, Rs.bind_ok] at p
      cases e2 : intsD xs with
      | none => rw [e2] at p; exact p.elim
      | some ns =>
        rw [e2] at p
        obtain ⟨q, ws, rfl, hq, dq⟩ := qv_ok gr.cfg.sub hx e
        have := ints_ok dq e2
        subst this
        cases ns with
        | nil => exact p.elim
        | cons n ns =>
          refine ⟨q, n :: ns, rfl, hq, by simp, fun m hm hle => ?_⟩
          have f := fold_max ns n
          have e3 : m = ns.foldl (fun a b => if b > a then b else a) n := by have := f.2 m hm; have := hle _ f.1; omega
          rw [e3]
          exact p F H _ gr (.int _)
  · exact p.elim
theorem c_min1 : CaS K ca (rMin K) gMin1 := by
  intro W σ F0 H0 F H vs as Q gr h p
  unfold gMin1 at p
  split at p
  · rename_i r
    obtain ⟨v, rfl, hx⟩ := pr1 h
    cases e : r.qv with
    | none => rw [e] at p; exact p.elim
    | some xs =>
      rw [e] at p
      simp only [rsO_some, Rs.bind_ok] at p
      cases e2 : intsD xs with
      | none => rw [e2] at p; exact p.elim
      | some ns =>
        rw [e2] at p
        obtain ⟨q, ws, rfl, hq, dq⟩ := qv_ok gr.cfg.sub hx e
        have := ints_ok dq e2
        subst this
        cases ns with
        | nil => exact p.elim
        | cons n ns =>
          refine ⟨q, n :: ns, rfl, hq, by simp, fun m hm hle => ?_⟩
          have f := fold_min ns n
          have e3 : m = ns.foldl (fun a b => if b < a then b else a) n := by have := f.2 m hm; have := hle _ f.1; omega
          rw [e3]
          exact p F H _ gr (.int _)
  · exact p.elim
/-- str(n), int(text) -/
def gStr : List RV → Rs RV
  | [.d (.int i)] => if i.natAbs.log2 < 1920 then .ok (.d (.str (toString i : String))) else .no
  | _ => .no
theorem c_str : CaS K ca (fun xs H Q => ∃ i, xs = [.int i] ∧ i.natAbs.log2 < 1920 ∧ Q (.str (toString i : String)) H) gStr := by
  intro W σ F0 H0 F H vs as Q gr h p
  unfold gStr at p
  split at p
  · obtain ⟨v, rfl, hx⟩ := pr1 h
    cases hx
    split at p
    · rename_i c; exact ⟨_, rfl, c, p F H _ gr (.str _)⟩
    · exact p.elim
  · exact p.elim
def gInt : List RV → Rs RV
  | [.d (.str a)] => (rsO (PySem.intText? a)).bind fun n => if a.length ≤ 640 then okI n else .no
  | _ => .no
theorem c_int : CaS K ca (fun xs H Q => ∃ a n, xs = [.str a] ∧ PySem.intText? a = some n ∧ a.length ≤ 640 ∧ Q (.int n) H) gInt := by
  intro W σ F0 H0 F H vs as Q gr h p
  unfold gInt at p
  split at p
  · rename_i a
    obtain ⟨v, rfl, hx⟩ := pr1 h
    cases hx
    cases e : PySem.intText? a with
    | none => rw [e] at p; exact p.elim
    | some n =>
      rw [e] at p
      simp only [rsO_some, Rs.bind_ok] at p
      split at p
      · rename_i c; exact ⟨_, _, rfl, e, c, p F H _ gr (.int _)⟩
      · exact p.elim
  · exact p.elim
end
section
variable {ca : Nat → Addr} {W : WX} {X : Cx} {a b e : Expr} {es : List Expr} {fa fb : VEnv → Rs RV} {pos : Pos}
/-! ### slices -/
structure VO (ca : Nat → Addr) (W : WX) (X : Cx) (e : Option Expr) (f : VEnv → Rs (Option Int)) : Prop where
  ex : ∃ t, PO X e t ∧ ∀ B F env σ H Q, StOk X.K B F env σ H → (∀ o, f env = .ok o → ∀ F' H', Grow F H F' H' → Q o H') → (∀ c fs, f env = .ex c fs → PostX X.K ca W σ F H c fs) → f env ≠ .no → t σ H Q
def oN : VEnv → Rs (Option Int) := fun _ => .ok none
def oS (f : VEnv → Rs RV) : VEnv → Rs (Option Int) := fun env => (f env).bind fun r => match r with
  | .d (.int i) => .ok (some i)
  | _ => .no
theorem vo_none : VO ca W X none oN := ⟨_, po_none, fun B F env σ H Q st p _ _ => p none rfl F H (Grow.refl st.cfg)⟩
theorem vo_some (h : VE ca W X e fa) : VO ca W X (some e) (oS fa) := by
  obtain ⟨t, pe, se⟩ := h
  refine ⟨_, po_some pe, fun B F env σ H Q st p px pn => ?_⟩
  show t σ H fun x H1 => ∃ i, x = .int i ∧ Q (some i) H1
  refine se B F env σ H _ st ?_
  unfold oS at p px pn
  cases e1 : fa env with
  | no => rw [e1] at pn; exact (pn rfl).elim
  | ex c fs => exact px c fs (by rw [e1]; rfl)
  | ok r =>
    rw [e1] at p pn
    intro F' H' v g q
    simp only [Rs.bind_ok] at p pn
    split at pn
    · rename_i i; cases q; exact ⟨i, rfl, p _ rfl F' H' g⟩
    · exact (pn rfl).elim
def cSl (f : VEnv → Rs RV) (l h : VEnv → Rs (Option Int)) : VEnv → Rs RV := fun env => (f env).bind fun r => (l env).bind fun lo => (h env).bind fun hi => gSl r lo hi
theorem ve_sl {lo hi : Option Expr} {p2 : Pos} {l h : VEnv → Rs (Option Int)} (he : VE ca W X e fa) (hl : VO ca W X lo l) (hh : VO ca W X hi h) : VE ca W X (.Subscript e (.Slice lo hi none p2) pos) (cSl fa l h) := by
  obtain ⟨t, pe, se⟩ := he
  obtain ⟨tl, pl, sl⟩ := hl
  obtain ⟨th, ph, sh⟩ := hh
  refine ⟨_, pe_slice sl_all pe pl ph, fun B F env σ H Q st p => ?_⟩
  show t σ H fun x H1 => tl σ H1 fun l H2 => th σ H2 fun u H3 => rSlAll X.K x l u H3 Q
  refine seqE (PostE X.K ca W σ F H Q) se st p (fun _ _ h => h) (fun h => h) fun r F1 H1 v p1 g1 q1 => ?_
  refine sl B F1 env σ H1 _ (st.grow g1) (fun o eo F2 H2 g2 => ?_) (fun c fs ex => ?_) (fun en => ?_)
  · rw [eo] at p1
    simp only [Rs.bind_ok] at p1
    refine sh B F2 env σ H2 _ ((st.grow g1).grow g2) (fun u eu F3 H3 g3 => ?_) (fun c fs ex => ?_) (fun en => ?_)
    · rw [eu] at p1
      exact s_sl ((g1.trans g2).trans g3) ((q1.grow g2).grow g3) p1
    · rw [ex] at p1; exact PostX.mono (g1.trans g2) p1
    · rw [en] at p1; exact p1
  · rw [ex] at p1; exact PostX.mono g1 p1
  · rw [en] at p1; exact p1
def gRev (r : RV) : Rs RV := (rsO r.qv).bind fun xs => .ok (.ol xs.reverse)
theorem ve_rev {k : Nat} {p1 p2 p3 : Pos} (he : VE ca W X e fa) : VE ca W X (.Subscript e (.Slice none none (some (.UnaryOp .USub (.Constant (.int 1) k p1) p2)) p3) pos) (c1 gRev fa) := by
  obtain ⟨t, pe, se⟩ := he
  refine ⟨_, pe_revL pe, fun B F env σ H Q st p => ?_⟩
  show t σ H fun x H1 => ∃ a xs, x = .ref a ∧ SqL X.K H1 a xs ∧ ∀ p, H1 p = none → Q (.ref p) (upd H1 p (.lst xs.reverse))
  refine seqE (PostE X.K ca W σ F H Q) se st p (fun _ _ h => h) (fun h => h) fun r F1 H1 v p1 g1 q1 => ?_
  unfold gRev at p1
  cases e1 : r.qv with
  | none => rw [e1] at p1; exact p1.elim
  | some xs =>
    rw [e1] at p1
    obtain ⟨q, ws, rfl, hq, dq⟩ := qv_ok g1.cfg.sub q1 e1
    refine ⟨q, ws, rfl, hq, fun l hl => ?_⟩
    have g2 := Grow.newO g1.cfg (.lst ws.reverse) hl (fun _ z => by cases z)
    exact p1 _ _ _ (g1.trans g2) ⟨l, _, rfl, same_none g1.hh hl, same_none g1.cfg.sub hl, upd_same, dq.rev⟩
/-! ### isinstance(e, T), T a built-in class -/
def tyD : PyData → Option String
  | .none => some "NoneType"
  | .bool _ => some "bool"
  | .int _ => some "int"
  | .str _ => some "str"
  | .list _ => some "list"
  | .tuple _ => some "tuple"
  | .dict _ => none
def gIsi (T : String) (r : RV) : Rs RV := (rsO (r.data.bind tyD)).bind fun t => (rsO (kitB t T)).bind okB
theorem ty_ok {K : PySem.W.Frag} {H0 F H : Hp} {v : V} {r : RV} {t : String} (s : Same F H) (h : RVok K H0 F H v r) (e : r.data.bind tyD = some t) : TyX K H v (.type t) := by
  have lst : ∀ p vs, SqL K H p vs → TyX K H (.ref p) (.type "list") := fun p vs h => by
    rcases h with (h | ⟨o, h⟩) | ⟨o, its, n, hk, hc, _⟩
    · exact .base (.lst h)
    · exact .base (.frz h)
    · exact .kList hk hc
  have tup : ∀ p vs, SqT K H p vs → TyX K H (.ref p) (.type "tuple") := fun p vs h => by
    rcases h with (h | ⟨o, h⟩) | ⟨o, its, n, hk, hc, _⟩
    · exact .base (.tup h)
    · exact .fTuple h
    · exact .kTuple hk hc
  cases r with
  | d x =>
    cases x with
    | none => cases e; cases h; exact .base .non
    | bool b => cases e; cases h; exact .base (.bl _)
    | int b => cases e; cases h; exact .base (.int _)
    | str b => cases e; cases h; exact .base (.str _)
    | list xs => cases e; cases h with
      | lst h1 h2 => exact lst _ _ (SqL.of (s _ _ h1))
    | tuple xs => cases e; cases h with
      | tup h1 h2 => exact tup _ _ (same_seqT s h1)
    | dict kvs => cases e
  | ol xs => cases e; obtain ⟨p, vs, rfl, _, _, hp, _⟩ := h; exact lst _ _ (SqL.of hp)
  | bl xs => cases e; obtain ⟨p, vs, rfl, hp, _⟩ := h; exact lst _ _ (SqL.of hp)
  | sc ns => cases e; obtain ⟨p, rfl, hp⟩ := h; exact lst _ _ (s.seq hp)
  | _ => cases e
theorem ve_isi {T : Str} {T' : String} {p p2 : Pos} (hg : Gl X "isinstance") (hm : X.mg "isinstance" = none) (hg2 : Gl X T) (hm2 : X.mg T = none) (hv : bootBuiltins T = some (.type T')) (he : VE ca W X e fa) (hn2 : T ≠ "__name__" := by decide) (hd2 : (T == ("__debug__" : Str)) = false := by decide)
    (hs : starEach [e, .Name T p2] X.env = (false, eval e X.env) :: starEach [.Name T p2] X.env := by rfl) (hs2 : starEach [.Name T p2] X.env = (false, eval (.Name T p2) X.env) :: starEach [] X.env := by rfl) (hpl : (backTo pos (starEach [.Name T p2] X.env)).any (·.1) = false := by rfl) :
    VE ca W X (.Call (.Name "isinstance" p) [e, .Name T p2] [] pos) (c1 (gIsi T') fa) := by
  obtain ⟨t, pe, se⟩ := he
  refine ⟨_, pe_callB call_isi hg hm (by decide +kernel) (pa_cons pe (pa_cons (pe_bltn (v := .ty T') hg2 hm2 hv rfl hn2 hd2) pa_nil hs2) hs) (by decide) (by decide) hs hpl, fun B F env σ H Q st q => ?_⟩
  show t σ H fun x H1 => rIsi X.K [x, .ty T'] H1 Q
  refine seqE (PostE X.K ca W σ F H Q) se st q (fun _ _ h => h) (fun h => h) fun r F1 H1 v p1 g1 q1 => ?_
  unfold gIsi at p1
  cases e1 : r.data.bind tyD with
  | none => rw [e1] at p1; exact p1.elim
  | some ty =>
    rw [e1] at p1
    simp only [rsO_some, Rs.bind_ok] at p1
    cases e2 : kitB ty T' with
    | none => rw [e2] at p1; exact p1.elim
    | some k => rw [e2] at p1; exact ⟨v, .ty T', .type ty, .type T', k, rfl, .ty T', ty_ok g1.cfg.sub q1 e1, kit_ty e2, p1 F1 H1 _ g1 (.bl _)⟩
/-! ### range with a step of -1 -/
def gR3 : List RV → Rs (List PyData)
  | [.d (.int i), .d (.int j), .d (.int c)] => if c = -1 ∧ i.natAbs ≤ 1000000 ∧ j.natAbs ≤ 1000000 then .ok ((List.range (i - j).toNat).map fun k : Nat => .int (i - (k : Int))) else .no
  | _ => .no
theorem jw_rngc {G : Hp} (lo : Int) (n : Nat) : JWalk (Itc lo (-1) n) G ((List.range n).map fun i : Nat => V.int (lo - (i : Int))) where
  go := fun i H s hi => by
    have hi' : i < n := by simpa using hi
    exact hi'
  yld := fun i H x H' s y hi => by
    have hi' : i < n := by simpa using hi
    refine ⟨y.1, ?_⟩
    rw [y.2, List.getElem?_map, List.getElem?_range hi']
    show some (V.int (lo - (i : Int))) = some (V.int (lo + (i : Int) * -1))
    congr 2
    omega
  stop := fun H s => by show n ≤ _; simp
theorem vi_range3 {c tg : Expr} {p pos : Pos} {f : VEnv → Rs (List RV)} (hg : Gl X "range") (hm : X.mg "range" = none) (ha : VA ca W X [a, b, c] f)
    (hs : starEach [a, b, c] X.env = (false, eval a X.env) :: starEach [b, c] X.env := by rfl) (hpl : (backTo pos (starEach [b, c] X.env)).any (·.1) = false := by rfl) : VI ca W X tg (.Call (.Name "range" p) [a, b, c] [] pos) (iR gR3 f) := by
  obtain ⟨t, pa, sa⟩ := ha
  refine ⟨_, pi_range3 hg hm pa hs hpl, fun B F env σ H R st q => ?_⟩
  show t σ H fun vs H1 => ∃ (i j c : Int) (n : Nat), vs = [.int i, .int j, .int c] ∧ RgC i j c n ∧ R (Itc i c n) H1
  refine seqA (PostI X.K ca W σ F H R) sa st q (fun _ _ h => h) (fun h => h) fun rs F1 H1 vs p1 g1 q1 => ?_
  unfold gR3 at p1
  split at p1
  · rename_i i j c
    split at p1
    · rename_i hj
      cases q1 with
      | cons h1 h2 =>
        cases h2 with
        | cons h3 h4 =>
          cases h4 with
          | cons h5 h6 =>
            cases h6
            cases h1; cases h3; cases h5
            obtain ⟨rfl, k1, k2⟩ := hj
            refine ⟨i, j, -1, _, rfl, RgC.neg (by omega) (by omega) (by omega) (by omega), p1 _ F1 H1 _ g1 ?_ (jw_rngc i _)⟩
            have := DqA.of_ints (K := X.K) (F := F1) ((List.range (i - j).toNat).map fun k : Nat => i - (k : Int))
            rw [List.map_map, List.map_map] at this
            exact this
    · exact p1.elim
  · exact p1.elim
end
end VL

namespace VL
open PySem PySem.Spec PyProof.Rows L2

/-! ## writes to a list of one's own -/
section
variable {K : PySem.W.Frag} {ca : Nat → Addr} {W : WX} {B : Base} {F H : Hp} {env : VEnv} {σ : L2.St}
theorem own_xd {K : PySem.W.Frag} {H0 F H : Hp} {p : Addr} {r : RV} {xs : List (Str × V)} (o : r.own = true) (h : RVok K H0 F H (.ref p) r) (hx : H p = some (.xd xs)) : False := by
  cases r with
  | ol ys => obtain ⟨a, ws, z, _, _, h2, _⟩ := h; cases z; rw [hx] at h2; cases h2
  | od ys => obtain ⟨a, ws, z, _, _, h2, _⟩ := h; cases z; rw [hx] at h2; cases h2
  | ot ys =>
    obtain ⟨a, ws, z, _, _, h2, _⟩ := h; cases z; rw [hx] at h2
    have h3 := Option.some.inj h2
    have h4 : HO.xd xs = HO.ext _ := h3
    cases h4
  | _ => cases o
theorem StOk.ownAt (st : StOk K B F env σ H) {i : Nat} {xs : List PyData} (e : env[i]? = some (some (.ol xs))) : ∃ p vs, σ[i]? = some (some (.ref p)) ∧ B.H p = none ∧ F p = none ∧ H p = some (.lst vs) ∧ DqA K F vs xs := by
  obtain ⟨v, e1, p, vs, rfl, q⟩ := st.sl i _ e
  exact ⟨p, vs, e1, q⟩
theorem StOk.write (st : StOk K B F env σ H) {i : Nat} {r0 r1 : RV} {p : Addr} {o o' : HO} (e : env[i]? = some (some r0)) (ow : r0.own = true) (es : σ[i]? = some (some (.ref p))) (hp : H p = some o) (n0 : B.H p = none) (f0 : F p = none) (nt : ∀ xs, o' ≠ .tup xs)
    (ok : RVok K B.H F (upd H p o') (.ref p) r1) (ob : r1.isB = false) : StOk K B F (env.set i (some r1)) σ (upd H p o') := by
  have hi : i < env.length := (List.getElem?_eq_some_iff.mp e).1
  refine ⟨st.gr.write n0 f0 hp nt, by simpa using st.len, fun j r ej => ?_, fun j r a ej o z => ?_, fun j k r r' a jk e1 e2 o1 o2 z1 z2 => ?_⟩
  · by_cases h : i = j
    · subst h
      rw [List.getElem?_set_self hi] at ej
      cases ej
      exact ⟨_, es, ok⟩
    · rw [List.getElem?_set_ne h] at ej
      obtain ⟨w, ew, q⟩ := st.sl j r ej
      refine ⟨w, ew, ?_⟩
      have ne : ∀ a, r.own = true → w = .ref a → a ≠ p := fun a o z y => by
        subst y; subst z
        exact st.dis i j r0 r a h e ej ow o es ew
      have nb : ∀ a, r.isB = true → w = .ref a → a ≠ p := fun a o z y => by
        subst y; subst z
        obtain ⟨ob, hb⟩ := st.bo j r a ej o ew
        rw [n0] at hb; cases hb
      cases r with
      | d x => exact q
      | ol ys => obtain ⟨a, ws, z, n, f2, h2, q4⟩ := q; exact ⟨a, ws, z, n, f2, by rw [upd_ne (ne a rfl z)]; exact h2, q4⟩
      | od ys => obtain ⟨a, ws, z, n, f2, h2, q4⟩ := q; exact ⟨a, ws, z, n, f2, by rw [upd_ne (ne a rfl z)]; exact h2, q4⟩
      | ot ys => obtain ⟨a, ws, z, n, f2, h2, q4⟩ := q; exact ⟨a, ws, z, n, f2, by rw [upd_ne (ne a rfl z)]; exact h2, q4⟩
      | sc ns => exact q
      | bl ys => obtain ⟨a, ws, z, h2, q4⟩ := q; exact ⟨a, ws, z, by rw [upd_ne (nb a rfl z)]; exact h2, q4⟩
      | bd ys => obtain ⟨a, ws, z, h2, q4⟩ := q; exact ⟨a, ws, z, by rw [upd_ne (nb a rfl z)]; exact h2, q4⟩
      | bt ys => obtain ⟨a, ws, z, h2, q4⟩ := q; exact ⟨a, ws, z, by rw [upd_ne (nb a rfl z)]; exact h2, q4⟩
      | xo a dd c fs =>
        obtain ⟨z, ws, h2, q4⟩ := q
        have hne : dd ≠ p := fun y => by
          subst y
          obtain ⟨v0, ev0, q0⟩ := st.sl i r0 e
          rw [es] at ev0
          cases ev0
          exact own_xd ow q0 h2
        exact ⟨z, ws, by rw [upd_ne hne]; exact h2, q4⟩
  · by_cases h : i = j
    · subst h
      rw [List.getElem?_set_self hi] at ej
      cases ej
      rw [ob] at o; cases o
    · rw [List.getElem?_set_ne h] at ej
      exact st.bo j r a ej o z
  · have own : ∀ (j : Nat) (r : RV), (env.set i (some r1))[j]? = some (some r) → r.own = true → ∃ r', env[j]? = some (some r') ∧ r'.own = true := fun j r ej o => by
      by_cases h : i = j
      · subst h; exact ⟨r0, e, ow⟩
      · rw [List.getElem?_set_ne h] at ej; exact ⟨r, ej, o⟩
    obtain ⟨s1, f1, g1⟩ := own j r e1 o1
    obtain ⟨s2, f2, g2⟩ := own k r' e2 o2
    exact st.dis j k s1 s2 a jk f1 f2 g1 g2 z1 z2
end
section
variable {ca : Nat → Addr} {W : WX} {X : Cx} {a b e : Expr} {es : List Expr} {fa fb : VEnv → Rs RV} {pos : Pos}
/-- xs.append(e), xs a list of the def's own -/
def sApp (i : Nat) (fe : VEnv → Rs RV) : VEnv → Out := fun env => match env[i]? with
  | some (some (.ol xs)) => (fe env).out env fun r => match r.toD with
    | some d => if xs.length ≤ 1000000 then .nx (env.set i (some (.ol (xs ++ [d])))) else .no
    | none => .no
  | _ => .no
theorem vs_app (i : Nat) {x : Str} {p1 p2 p3 : Pos} (he : VE ca W X e fa) (hN : X.N[i]? = some x := by rfl) (hv : Vis X.env.scope x := by first | exact Or.inl rfl | exact Or.inr (Or.inl rfl) | exact Or.inr (Or.inr rfl)) (hd : (x == ("__debug__" : Str)) = false := by decide) (hcd : (x == ("__classdict__" : Str)) = false := by decide)
    (hbase : attributeBase (.Name x p1) "append" X.env (eval (.Name x p1) X.env) = eval (.Name x p1) X.env := by rfl)
    (hfew : ((backTo p3 (starEach (e :: []) X.env)).all (fun x => !x.1) && (backToKw p3 (keywordEach [] X.env)).all (fun x => x.1.isSome)
      && decide ((e :: []).length + ([] : List Keyword).length + (if ([] : List Keyword).isEmpty then 0 else 1) < 30)) = true := by rfl)
    (hline : (p2.endLine == p3.line) = true := by rfl) (hs : starEach (e :: []) X.env = (false, eval e X.env) :: starEach [] X.env := by rfl) (hplain : (backTo p3 (starEach [] X.env)).any (·.1) = false := by rfl)
    (hsw : swapsWith (.Call (.Attribute (.Name x p1) "append" p2) [e] [] p3) none pos.line X.env = pure false := by rfl) :
    VS ca W X (.Expr (.Call (.Attribute (.Name x p1) "append" p2) [e] [] p3) pos) (sApp i fa) := by
  obtain ⟨t, pe, se⟩ := he
  refine ⟨_, ps_expr (pe_bm PySem.F.plainAttrs_list PySem.F.slot_list_append PySem.F.type_list_append mt_append (pe_var hN hv hd hcd) (pa_cons pe pa_nil hs) hbase hfew hline hs hplain) hsw, fun B F env σ H D st p => ?_⟩
  show ∃ v, σ[i]? = some (some v) ∧ (tyV X.K "list" v H ∧ t σ H fun y H1 => rAppend v [y] H1 fun _ H2 => D.nx σ H2)
  unfold sApp at p
  split at p
  · rename_i xs e1
    obtain ⟨a, vs, s1, n0, f0, hp, q⟩ := st.ownAt e1
    refine ⟨.ref a, s1, .inl ⟨rfl, vs, SqL.of hp⟩, ?_⟩
    refine outE se st p fun r F1 H1 v p1 g q1 => ?_
    cases e2 : r.toD with
    | none => rw [e2] at p1; exact p1.elim
    | some d =>
      rw [e2] at p1
      simp only at p1
      split at p1
      · rename_i hz
        obtain ⟨F2, g2, s2, q2⟩ := frz g (Fz.of q1 e2)
        have st2 := st.grow g2
        have hp2 := g2.hh _ _ hp
        have f2 := g2.stillFree f0 hp
        have q3 : DqA X.K F2 (vs ++ [v]) (xs ++ [d]) := (DqA.mono g2.ff _ _ q).append (.cons q2 .nil)
        refine ⟨a, vs, v, rfl, rfl, hp2, by rw [q.length]; exact million hz, ?_⟩
        exact p1 F2 σ _ s2 (st2.write (r1 := .ol (xs ++ [d])) e1 rfl s1 hp2 n0 f2 (fun _ z => by cases z) ⟨a, _, rfl, n0, f2, upd_same, q3⟩ rfl)
      · exact p1.elim
  · exact p.elim
/-- xs.pop() as a statement -/
def sPop (i : Nat) : VEnv → Out := fun env => match env[i]? with
  | some (some (.ol xs)) => if xs = [] then .no else .nx (env.set i (some (.ol xs.dropLast)))
  | _ => .no
/-- xs[i] = e -/
def sStore (i : Nat) (fi fe : VEnv → Rs RV) : VEnv → Out := fun env => match env[i]? with
  | some (some (.ol xs)) => (fe env).out env fun r => (fi env).out env fun ix => match r.toD, ix with
    | some d, .d (.int k) => (match ixN xs.length k with
      | some j => .nx (env.set i (some (.ol (xs.set j d))))
      | none => .no)
    | _, _ => .no
  | _ => .no
theorem vs_store (i : Nat) {x : Str} {ie : Expr} {p1 p2 : Pos} {fi : VEnv → Rs RV} (he : VE ca W X e fa) (hi : VE ca W X ie fi) (hN : X.N[i]? = some x := by rfl) (hv : Vis X.env.scope x := by first | exact Or.inl rfl | exact Or.inr (Or.inl rfl) | exact Or.inr (Or.inr rfl)) (hd : (x == ("__debug__" : Str)) = false := by decide) (hcd : (x == ("__classdict__" : Str)) = false := by decide)
    (ha : ∀ v, assign (.Subscript (.Name x p1) ie p2) X.env v = (do
      let ov ← holding [v] (eval (.Name x p1) X.env)
      let iv ← holding [v, ov] (eval ie X.env)
      standAt p2
      holding [v, ov, iv] (setItem ov iv v)
      release [v, ov, iv] []) := by intro _; rfl)
    (hs : swapsWithSole [.Subscript (.Name x p1) ie p2] e pos.line X.env = pure false := by rfl) (hw : swappedStores [.Subscript (.Name x p1) ie p2] e X.env = pure none := by rfl)
    (h1 : (assignEach [.Subscript (.Name x p1) ie p2] X.env).map (·.2) = [assign (.Subscript (.Name x p1) ie p2) X.env] := by rfl) :
    VS ca W X (.Assign [.Subscript (.Name x p1) ie p2] e pos) (sStore i fi fa) := by
  obtain ⟨t, pe, se⟩ := he
  obtain ⟨ti, pi, si⟩ := hi
  refine ⟨_, ps_asg pe (pg_sub (pe_var hN hv hd hcd) pi set_list ha) hs hw h1, fun B F env σ H D st p => ?_⟩
  show t σ H fun v H1 => ∃ o, σ[i]? = some (some o) ∧ ti σ H1 fun iv H3 => rSetL o iv v H3 fun H4 => D.nx σ H4
  unfold sStore at p
  split at p
  · rename_i xs e1
    obtain ⟨a, vs, s1, n0, f0, hp, q⟩ := st.ownAt e1
    refine outE se st p fun r F1 H1 v p1 g q1 => ⟨_, s1, ?_⟩
    refine outE si (st.grow g) p1 fun ix F2 H2 w p2 g2 q2 => ?_
    cases e2 : r.toD with
    | none => rw [e2] at p2; exact p2.elim
    | some d =>
      rw [e2] at p2
      cases ix with
      | d y =>
        cases y with
        | int k =>
          simp only at p2
          cases e3 : ixN xs.length k with
          | none => rw [e3] at p2; exact p2.elim
          | some j =>
            rw [e3] at p2
            cases q2
            obtain ⟨F3, g3, s3, q3⟩ := frz (g.trans g2) (Fz.of (q1.grow g2) e2)
            have hp3 := g3.hh _ _ hp
            have f3 := g3.stillFree f0 hp
            refine ⟨a, vs, k, j, rfl, rfl, hp3, by rw [q.length]; exact e3, ?_⟩
            exact p2 F3 σ _ s3 ((st.grow g3).write (r1 := .ol (xs.set j d)) e1 rfl s1 hp3 n0 f3 (fun _ z => by cases z) ⟨a, _, rfl, n0, f3, upd_same, DqA.set q3 j (DqA.mono g3.ff _ _ q)⟩ rfl)
        | _ => exact p2.elim
      | _ => exact p2.elim
  · exact p.elim
/-- x += e, ints -/
def sAug (i : Nat) (g : RV → RV → Rs RV) (fe : VEnv → Rs RV) : VEnv → Out := fun env => match env[i]? with
  | some (some r0) => (fe env).out env fun r => (g r0.bor r).out env fun z => putS i z env
  | _ => .no
theorem vs_augI {i : Nat} {x : Str} {pos' : Pos} (hN : X.N.Nodup) (hi : X.N[i]? = some x) (hx : Loc X.env.scope x) (he : VE ca W X e fa) (hf : X.fn x = true ∨ X.env.scope.names.lookup x = some .local := by first | exact .inl rfl | exact .inr rfl | assumption) :
    VS ca W X (.AugAssign (.Name x pos') .Add e pos) (sAug i (RV.i2 fun i j => okI (i + j)) fa) := by
  obtain ⟨t, pe, se⟩ := he
  refine ⟨_, ps_aug hN hi hx pe ip_add hf, fun B F env σ H D st p => ?_⟩
  show ∃ x, σ[i]? = some (some x) ∧ t σ H fun y H1 => ∃ k l, x = .int k ∧ y = .int l ∧ D.nx (σ.set i (some (.int (k + l)))) H1
  unfold sAug at p
  split at p
  · rename_i r0 e1
    obtain ⟨v, e2, q0⟩ := st.sl i r0 e1
    refine ⟨v, e2, ?_⟩
    refine outE se st p fun r F1 H1 w p1 g q1 => ?_
    cases r0 with
    | d x0 => cases x0 with
      | int k => cases r with
        | d y => cases y with
          | int l =>
            cases q0; cases q1
            exact ⟨k, l, rfl, rfl, snd_put (r := .d (.int (k + l))) st g (.int _) p1⟩
          | _ => exact p1.elim
        | _ => exact p1.elim
      | _ => cases r <;> exact p1.elim
    | _ => exact p1.elim
  · exact p.elim
end

/-! ## the law's end -/
def spTrue (K : PySem.W.Frag) : Sp := fun vs H Q _ => ∃ (a : Addr) (ns : List Int), vs = [.ref a] ∧ SqL K H a (ns.map V.int) ∧ ns.length ≤ 63 ∧ ∀ H', Q (.bl true) H'
theorem law_true {K : PySem.W.Frag} {ca : Nat → Addr} {G : List RV → Rs RV} (h : ∀ ns : List Int, ns.length ≤ 63 → G [.sc ns] = .ok (.d (.bool true))) (vs : List V) (H : Hp) (Q : VK) (E : XK) (s : spTrue K vs H Q E) : spV K ca 1 G vs H Q E := by
  obtain ⟨a, ns, rfl, hS, hl, q⟩ := s
  refine ⟨rfl, H, [.sc ns], ⟨Same.refl _, fun _ _ e => e⟩, .cons ⟨a, rfl, hS⟩ .nil, ?_⟩
  rw [h ns hl]
  intro G' H' v g r
  cases r
  exact q H'
end VL

namespace VL
open PySem PySem.Spec PyProof.Rows L2

/-! ## reckoning with semantic functions -/
@[simp] theorem fin_nx (e) : (Out.nx e).fin = .ok (.d .none) := rfl
@[simp] theorem fin_rt (r) : (Out.rt r).fin = .ok r := rfl
@[simp] theorem fin_ex (c fs e) : (Out.ex c fs e).fin = .ex c fs := rfl
@[simp] theorem fin_no : Out.no.fin = .no := rfl
/-- a turn's end in a loop -/
def Out.lp : Out → (VEnv → Out) → Out
  | .nx e, k => k e
  | .ct e, k => k e
  | .bk e, _ => .nx e
  | o, _ => o
@[simp] theorem lp_nx (e k) : (Out.nx e).lp k = k e := rfl
@[simp] theorem lp_ct (e k) : (Out.ct e).lp k = k e := rfl
@[simp] theorem lp_bk (e k) : (Out.bk e).lp k = .nx e := rfl
@[simp] theorem lp_rt (r k) : (Out.rt r).lp k = .rt r := rfl
@[simp] theorem lp_ex (c fs e k) : (Out.ex c fs e).lp k = .ex c fs e := rfl
@[simp] theorem lp_no (k) : Out.no.lp k = .no := rfl
@[simp] theorem loopF_nil (tg f env) : loopF tg f [] env = .nx env := rfl
theorem loopF_cons (tg f x xs env) : loopF tg f (x :: xs) env = match tgE tg x env with
  | none => .no
  | some e1 => (f e1).lp (loopF tg f xs) := by
  unfold loopF
  cases tgE tg x env with
  | none => rfl
  | some e1 => cases h : f e1 <;> simp [h, Out.lp]
theorem loopW_succ (c f n env) : loopW c f (n + 1) env = (c env).out env fun b => if b = true then (f env).lp (loopW c f n) else .nx env := by
  unfold loopW
  cases c env with
  | ok b => cases b with
    | false => rfl
    | true => simp only [Rs.out_ok, if_true]; cases h : f env <;> simp [h, Out.lp]
  | ex c fs => rfl
  | no => rfl
/-- a loop by a relation of what it carries; i: the turns so far -/
theorem loopF_go {α β : Type} {tg : Tg} {f : VEnv → Out} (R : Nat → α → VEnv → Prop) (emb : β → PyData) (step : α → β → α) : ∀ (xs : List β) (j : Nat) (s : α) (env : VEnv),
    (∀ i s env x, xs[i]? = some x → R (j + i) s env → ∃ e1, tgE tg (emb x) env = some e1 ∧ ∃ env', (f e1 = .nx env' ∨ f e1 = .ct env') ∧ R (j + i + 1) (step s x) env') → R j s env → ∃ env', loopF tg f (xs.map emb) env = .nx env' ∧ R (j + xs.length) (xs.foldl step s) env'
  | [], j, s, env, _, h => ⟨env, rfl, h⟩
  | x :: xs, j, s, env, hs, h => by
    obtain ⟨e1, t1, env', fe, r⟩ := hs 0 s env x rfl h
    obtain ⟨env2, l2, r2⟩ := loopF_go R emb step xs (j + 1) (step s x) env' (fun i s env y hy => by
      have := hs (i + 1) s env y (by simpa using hy)
      rw [show j + (i + 1) = j + 1 + i by omega] at this
      exact this) r
    refine ⟨env2, ?_, ?_⟩
    · rw [List.map_cons, loopF_cons, t1]
      rcases fe with fe | fe <;> simp only [fe, Out.lp] <;> exact l2
    · rw [List.length_cons, show j + (xs.length + 1) = j + 1 + xs.length by omega]; exact r2
theorem loopF_rel {α β : Type} {tg : Tg} {f : VEnv → Out} (R : Nat → α → VEnv → Prop) (emb : β → PyData) (step : α → β → α) (xs : List β) (s : α) (env : VEnv)
    (h : ∀ i s env x, xs[i]? = some x → R i s env → ∃ e1, tgE tg (emb x) env = some e1 ∧ ∃ env', (f e1 = .nx env' ∨ f e1 = .ct env') ∧ R (i + 1) (step s x) env') (h0 : R 0 s env) : ∃ env', loopF tg f (xs.map emb) env = .nx env' ∧ R xs.length (xs.foldl step s) env' := by
  have := loopF_go R emb step xs 0 s env (fun i s env x hx r => by rw [Nat.zero_add] at r ⊢; exact h i s env x hx r) h0
  rw [Nat.zero_add] at this
  exact this
/-- .. with a return on the way -/
def foldU {α β γ : Type} (step : α → β → Sum α γ) : List β → α → Sum α γ
  | [], s => .inl s
  | x :: xs, s => match step s x with
    | .inl s' => foldU step xs s'
    | .inr r => .inr r
theorem loopF_retgo {α β : Type} {tg : Tg} {f : VEnv → Out} (R : Nat → α → VEnv → Prop) (emb : β → PyData) (step : α → β → Sum α RV) : ∀ (xs : List β) (j : Nat) (s : α) (env : VEnv),
    (∀ i s env x, xs[i]? = some x → R (j + i) s env → ∃ e1, tgE tg (emb x) env = some e1 ∧ match step s x with
      | .inl s' => ∃ env', (f e1 = .nx env' ∨ f e1 = .ct env') ∧ R (j + i + 1) s' env'
      | .inr r => f e1 = .rt r) → R j s env → match foldU step xs s with
      | .inl s' => ∃ env', loopF tg f (xs.map emb) env = .nx env' ∧ R (j + xs.length) s' env'
      | .inr r => loopF tg f (xs.map emb) env = .rt r
  | [], j, s, env, _, h => ⟨env, rfl, h⟩
  | x :: xs, j, s, env, hs, h => by
    obtain ⟨e1, t1, q⟩ := hs 0 s env x rfl h
    have e0 : loopF tg f ((x :: xs).map emb) env = (f e1).lp (loopF tg f (xs.map emb)) := by rw [List.map_cons, loopF_cons, t1]
    rw [e0]
    unfold foldU
    cases hst : step s x with
    | inr r => rw [hst] at q; simp only at q ⊢; rw [q]; rfl
    | inl s' =>
      rw [hst] at q
      simp only at q ⊢
      obtain ⟨env', fe, r⟩ := q
      have e2 : (f e1).lp (loopF tg f (xs.map emb)) = loopF tg f (xs.map emb) env' := by rcases fe with fe | fe <;> rw [fe] <;> rfl
      rw [e2, List.length_cons, show j + (xs.length + 1) = j + 1 + xs.length by omega]
      exact loopF_retgo R emb step xs (j + 1) s' env' (fun i s env y hy => by
        have := hs (i + 1) s env y (by simpa using hy)
        rw [show j + (i + 1) = j + 1 + i by omega] at this
        exact this) r
theorem loopF_ret {α β : Type} {tg : Tg} {f : VEnv → Out} (R : Nat → α → VEnv → Prop) (emb : β → PyData) (step : α → β → Sum α RV) (xs : List β) (s : α) (env : VEnv)
    (h : ∀ i s env x, xs[i]? = some x → R i s env → ∃ e1, tgE tg (emb x) env = some e1 ∧ match step s x with
      | .inl s' => ∃ env', (f e1 = .nx env' ∨ f e1 = .ct env') ∧ R (i + 1) s' env'
      | .inr r => f e1 = .rt r) (h0 : R 0 s env) : match foldU step xs s with
      | .inl s' => ∃ env', loopF tg f (xs.map emb) env = .nx env' ∧ R xs.length s' env'
      | .inr r => loopF tg f (xs.map emb) env = .rt r := by
  have := loopF_retgo R emb step xs 0 s env (fun i s env x hx r => by rw [Nat.zero_add] at r ⊢; exact h i s env x hx r) h0
  rw [Nat.zero_add] at this
  exact this
@[simp] theorem lcF_nil (tg t fe env) : lcF tg t fe env [] = .ok [] := rfl
/-- a comprehension -/
theorem lcF_map {β : Type} {tg : Tg} {t : VEnv → Rs Bool} {fe : VEnv → Rs RV} {env : VEnv} (emb : β → PyData) (p : β → Bool) (g : β → PyData) : ∀ (xs : List β),
    (∀ x ∈ xs, ∃ e1, tgE tg (emb x) env = some e1 ∧ t e1 = .ok (p x) ∧ (p x = true → ∃ r, fe e1 = .ok r ∧ r.toD = some (g x))) → lcF tg t fe env (xs.map emb) = .ok ((xs.filter p).map g)
  | [], _ => rfl
  | x :: xs, h => by
    obtain ⟨e1, t1, c1, f1⟩ := h x List.mem_cons_self
    have ih := lcF_map (tg := tg) (t := t) (fe := fe) (env := env) emb p g xs fun y hy => h y (List.mem_cons_of_mem _ hy)
    rw [List.map_cons]
    unfold lcF
    rw [t1]
    simp only
    rw [c1]
    cases hp : p x with
    | false => simp only; rw [ih, List.filter_cons_of_neg (by simp [hp])]
    | true =>
      obtain ⟨r, f2, f3⟩ := f1 hp
      simp only
      rw [f2]
      simp only
      rw [f3]
      simp only
      rw [ih, List.filter_cons_of_pos hp]
      rfl
end VL

namespace VL
open PySem PySem.Spec PyProof.Rows L2
section
variable (f g : VEnv → Out) (fa fb : VEnv → Rs RV) (fA : VEnv → Rs (List RV)) (tb tc : VEnv → Rs Bool) (env : VEnv) (i j : Nat) (x y : PyData) (xs ys : List PyData)
@[simp] theorem e_nil : sNil env = .nx env := rfl
@[simp] theorem e_seq : sSeq f g env = (f env).then g := rfl
@[simp] theorem e_fz : sFz i f env = f (fzE i env) := rfl
@[simp] theorem e_bk : sBk env = .bk env := rfl
@[simp] theorem e_ct : sCt env = .ct env := rfl
@[simp] theorem e_ret : sRet fa env = (fa env).out env fun r => (r.nb).out env .rt := rfl
@[simp] theorem e_retN : sRetN env = .rt (.d .none) := rfl
@[simp] theorem e_drop : sDrop fa env = (fa env).out env fun _ => .nx env := rfl
@[simp] theorem e_set : sSet i fa env = (fa env).out env fun r => putS i r env := rfl
@[simp] theorem e_if : sIf tb f g env = (tb env).out env fun b => if b = true then f env else g env := rfl
@[simp] theorem e_for (tg src) : sFor tg src f env = (src env).out env fun xs => loopF tg f xs env := rfl
@[simp] theorem e_cC : cC x env = .ok (.d x) := rfl
@[simp] theorem e_c2 (h) : c2 h fa fb env = (fa env).bind fun x => (fb env).bind fun y => h x y := rfl
@[simp] theorem e_c1 (h) : c1 h fa env = (fa env).bind h := rfl
@[simp] theorem e_cA (h) : cA h fA env = (fA env).bind h := rfl
@[simp] theorem e_aN : aN env = .ok [] := rfl
@[simp] theorem e_aC : aC fa fA env = (fa env).bind fun x => (fA env).bind fun xs => .ok (x :: xs) := rfl
@[simp] theorem e_cB : cB fa env = (fa env).bind asB := rfl
@[simp] theorem e_asB (b : Bool) : asB (.d (.bool b)) = .ok b := rfl
@[simp] theorem e_bNot : bNot tb env = (tb env).bind fun b => .ok (!b) := rfl
@[simp] theorem e_bAnd : bAnd tb tc env = (tb env).bind fun b => if b = true then tc env else .ok false := rfl
@[simp] theorem e_bOr : bOr tb tc env = (tb env).bind fun b => if b = true then .ok true else tc env := rfl
@[simp] theorem e_vAnd : vAnd fa fb env = (cB fa env).bind fun b => if b = true then fb env else .ok (.d (.bool false)) := rfl
@[simp] theorem e_vOr : vOr fa fb env = (cB fa env).bind fun b => if b = true then .ok (.d (.bool true)) else fb env := rfl
@[simp] theorem e_vNot : vNot fa env = (cB fa env).bind fun b => .ok (.d (.bool (!b))) := rfl
@[simp] theorem e_vIf : vIf tb fa fb env = (tb env).bind fun b => if b = true then fa env else fb env := rfl
@[simp] theorem e_bYes : bYes env = .ok true := rfl
@[simp] theorem e_iL : iL fa env = (fa env).bind gL := rfl
@[simp] theorem e_iT : iT fa env = (fa env).bind gT := rfl
@[simp] theorem e_iLb : iLb fa env = (fa env).bind gLb := rfl
@[simp] theorem e_iR (h) : iR h fA env = (fA env).bind h := rfl
@[simp] theorem e_gL1 : gL (.d (.list xs)) = .ok xs := rfl
@[simp] theorem e_gL2 : gL (.ol xs) = .ok xs := rfl
@[simp] theorem e_gL3 (ns) : gL (.sc ns) = .ok (ns.map .int) := rfl
@[simp] theorem e_gT : gT (.d (.tuple xs)) = .ok xs := rfl
@[simp] theorem e_gLb1 : gLb (.d (.list xs)) = .ok xs := rfl
@[simp] theorem e_gLb2 : gLb (.ol xs) = .ok xs := rfl
@[simp] theorem e_gLb3 : gLb (.bl xs) = .ok xs := rfl
@[simp] theorem e_gLb4 (ns) : gLb (.sc ns) = .ok (ns.map .int) := rfl
@[simp] theorem e_nb1 : (RV.d x).nb = .ok (.d x) := rfl
@[simp] theorem e_nb2 : (RV.ol xs).nb = .ok (.ol xs) := rfl
@[simp] theorem e_bor1 : (RV.d x).bor = .d x := rfl
@[simp] theorem e_bor2 : (RV.ol xs).bor = .bl xs := rfl
@[simp] theorem e_bor3 : (RV.bl xs).bor = .bl xs := rfl
@[simp] theorem e_bor4 (ns) : (RV.sc ns).bor = .sc ns := rfl
@[simp] theorem e_arg1 : (RV.d x).arg = .d x := rfl
@[simp] theorem e_arg2 : (RV.ol xs).arg = .d (.list xs) := rfl
@[simp] theorem e_arg3 : (RV.bl xs).arg = .bl xs := rfl
@[simp] theorem e_arg4 (ns) : (RV.sc ns).arg = .sc ns := rfl
@[simp] theorem e_putd : putS i (.d x) env = if i < env.length then .nx (env.set i (some (.d x))) else .no := rfl
@[simp] theorem e_puto : putS i (.ol xs) env = if i < env.length then .nx (env.set i (some (.ol xs))) else .no := rfl
@[simp] theorem e_toD1 : (RV.d x).toD = some x := rfl
@[simp] theorem e_toD2 : (RV.ol xs).toD = some (.list xs) := rfl
@[simp] theorem e_allD0 : allD [] = some [] := rfl
@[simp] theorem e_allD1 (rs) : allD (.d x :: rs) = (allD rs).map (x :: ·) := by cases h : allD rs <;> simp [allD, h]
@[simp] theorem e_allD2 (rs) : allD (.ol xs :: rs) = (allD rs).map (.list xs :: ·) := by cases h : allD rs <;> simp [allD, h]
@[simp] theorem e_gTupl (rs) : gTupl rs = (rsO (allD rs)).bind fun ds => if ds.length ≤ 1000 then .ok (.d (.tuple ds)) else .no := rfl
@[simp] theorem e_gList (rs) : gList rs = (rsO (allD rs)).bind fun ds => if ds.length ≤ 1000 then .ok (.ol ds) else .no := rfl
@[simp] theorem e_tgnm : tgE (.nm i) x env = if i < env.length then some (env.set i (some (.d x))) else none := rfl
@[simp] theorem e_tgtp (is) : tgE (.tp is) (.tuple xs) env = tgEs is xs env := rfl
@[simp] theorem e_tg0 : tgEs [] [] env = some env := rfl
@[simp] theorem e_tg1 (is) : tgEs (i :: is) (x :: xs) env = if i < env.length then tgEs is xs (env.set i (some (.d x))) else none := rfl
@[simp] theorem e_sq1 : (RV.d (.tuple xs)).sq = some xs := rfl
@[simp] theorem e_sq2 : (RV.d (.list xs)).sq = some xs := rfl
@[simp] theorem e_sq3 : (RV.ol xs).sq = some xs := rfl
@[simp] theorem e_sq4 : (RV.bl xs).sq = some xs := rfl
@[simp] theorem e_sq5 (ns) : (RV.sc ns).sq = some (ns.map .int) := rfl
@[simp] theorem e_qv2 : (RV.d (.list xs)).qv = some xs := rfl
@[simp] theorem e_qv3 : (RV.ol xs).qv = some xs := rfl
@[simp] theorem e_qv4 : (RV.bl xs).qv = some xs := rfl
@[simp] theorem e_qv5 (ns) : (RV.sc ns).qv = some (ns.map .int) := rfl
@[simp] theorem e_data1 : (RV.d x).data = some x := rfl
@[simp] theorem e_data2 : (RV.ol xs).data = some (.list xs) := rfl
@[simp] theorem e_data3 : (RV.bl xs).data = some (.list xs) := rfl
@[simp] theorem e_okI (a : Int) : okI a = .ok (.d (.int a)) := rfl
@[simp] theorem e_okB (a : Bool) : okB a = .ok (.d (.bool a)) := rfl
@[simp] theorem e_i2 (h : Int → Int → Rs RV) (a b : Int) : RV.i2 h (.d (.int a)) (.d (.int b)) = h a b := rfl
@[simp] theorem e_sub (a b : Int) : gSub (.d (.int a)) (.d (.int b)) = .ok (.d (.int (a - b))) := rfl
@[simp] theorem e_mul (a b : Int) : gMul (.d (.int a)) (.d (.int b)) = if a.natAbs < 18446744073709551616 ∨ b.natAbs < 18446744073709551616 then .ok (.d (.int (a * b))) else .no := rfl
@[simp] theorem e_mod (a b : Int) : gMod (.d (.int a)) (.d (.int b)) = if 0 < b then .ok (.d (.int (a % b))) else .no := rfl
@[simp] theorem e_div (a b : Int) : gDiv (.d (.int a)) (.d (.int b)) = if 0 < b ∧ b.natAbs < 1073741824 then .ok (.d (.int (a / b))) else .no := rfl
@[simp] theorem e_pow (a b : Int) : gPow (.d (.int a)) (.d (.int b)) = if 0 ≤ b ∧ b ≤ 1000000 ∧ a.natAbs < 2 ^ 64 then .ok (.d (.int (a ^ b.toNat))) else .no := rfl
@[simp] theorem e_lt (a b : Int) : gLt (.d (.int a)) (.d (.int b)) = .ok (.d (.bool (decide (a < b)))) := rfl
@[simp] theorem e_le (a b : Int) : gLe (.d (.int a)) (.d (.int b)) = .ok (.d (.bool (decide (a ≤ b)))) := rfl
@[simp] theorem e_gt (a b : Int) : gGt (.d (.int a)) (.d (.int b)) = .ok (.d (.bool (decide (b < a)))) := rfl
@[simp] theorem e_ge (a b : Int) : gGe (.d (.int a)) (.d (.int b)) = .ok (.d (.bool (decide (b ≤ a)))) := rfl
@[simp] theorem e_neg (a : Int) : gNeg (.d (.int a)) = .ok (.d (.int (-a))) := rfl
@[simp] theorem e_addI (a b : Int) : gAdd (.d (.int a)) (.d (.int b)) = .ok (.d (.int (a + b))) := rfl
@[simp] theorem e_addS (a b : Str) : gAdd (.d (.str a)) (.d (.str b)) = if a.length + b.length ≤ 1000000 then .ok (.d (.str (a ++ b))) else .no := rfl
@[simp] theorem e_addT : gAdd (.d (.tuple xs)) (.d (.tuple ys)) = if xs.length + ys.length ≤ 1000000 then .ok (.d (.tuple (xs ++ ys))) else .no := rfl
@[simp] theorem e_addL1 : gAdd (.ol xs) (.ol ys) = if xs.length + ys.length ≤ 1000000 then .ok (.ol (xs ++ ys)) else .no := rfl
@[simp] theorem e_addL2 : gAdd (.ol xs) (.bl ys) = if xs.length + ys.length ≤ 1000000 then .ok (.ol (xs ++ ys)) else .no := rfl
@[simp] theorem e_addL3 : gAdd (.bl xs) (.ol ys) = if xs.length + ys.length ≤ 1000000 then .ok (.ol (xs ++ ys)) else .no := rfl
@[simp] theorem e_addL4 : gAdd (.bl xs) (.bl ys) = if xs.length + ys.length ≤ 1000000 then .ok (.ol (xs ++ ys)) else .no := rfl
@[simp] theorem e_addL5 : gAdd (.d (.list xs)) (.ol ys) = if xs.length + ys.length ≤ 1000000 then .ok (.ol (xs ++ ys)) else .no := rfl
@[simp] theorem e_addL6 : gAdd (.d (.list xs)) (.bl ys) = if xs.length + ys.length ≤ 1000000 then .ok (.ol (xs ++ ys)) else .no := rfl
@[simp] theorem e_addL7 : gAdd (.ol xs) (.d (.list ys)) = if xs.length + ys.length ≤ 1000000 then .ok (.ol (xs ++ ys)) else .no := rfl
@[simp] theorem e_addL8 : gAdd (.bl xs) (.d (.list ys)) = if xs.length + ys.length ≤ 1000000 then .ok (.ol (xs ++ ys)) else .no := rfl
@[simp] theorem e_addL9 : gAdd (.d (.list xs)) (.d (.list ys)) = if xs.length + ys.length ≤ 1000000 then .ok (.ol (xs ++ ys)) else .no := rfl
@[simp] theorem e_eq (a b : RV) : gEq a b = (rsO a.data).bind fun x => (rsO b.data).bind fun y => if SeqAt.shaped x = true ∧ SeqAt.shaped y = true then okB (PyData.eqv x y) else .no := rfl
@[simp] theorem e_ne (a b : RV) : gNe a b = (rsO a.data).bind fun x => (rsO b.data).bind fun y => if SeqAt.shaped x = true ∧ SeqAt.shaped y = true then okB (!PyData.eqv x y) else .no := rfl
@[simp] theorem e_in (a b : RV) : gIn a b = (gInB a b).bind okB := rfl
@[simp] theorem e_notIn (a b : RV) : gNotIn a b = (gInB a b).bind fun k => okB (!k) := rfl
@[simp] theorem e_inT (a : Int) : gInB (.d (.int a)) (.d (.tuple xs)) = if SeqAt.shaped (.int a) = true ∧ SeqAt.shaped (.tuple xs) = true then .ok (xs.any fun z => PyData.eqv z (.int a)) else .no := rfl
@[simp] theorem e_inT2 : gInB (.d (.tuple ys)) (.d (.tuple xs)) = if SeqAt.shaped (.tuple ys) = true ∧ SeqAt.shaped (.tuple xs) = true then .ok (xs.any fun z => PyData.eqv z (.tuple ys)) else .no := rfl
@[simp] theorem e_inL1 : gInB (.d x) (.d (.list xs)) = if SeqAt.shaped x = true ∧ SeqAt.shaped (.list xs) = true then .ok (xs.any fun z => PyData.eqv z x) else .no := by cases x <;> rfl
@[simp] theorem e_inL2 : gInB (.d x) (.ol xs) = if SeqAt.shaped x = true ∧ SeqAt.shaped (.list xs) = true then .ok (xs.any fun z => PyData.eqv z x) else .no := by cases x <;> rfl
@[simp] theorem e_inL3 : gInB (.d x) (.bl xs) = if SeqAt.shaped x = true ∧ SeqAt.shaped (.list xs) = true then .ok (xs.any fun z => PyData.eqv z x) else .no := by cases x <;> rfl
@[simp] theorem e_is (a : RV) : gIs a (.d .none) = .ok (.d (.bool (isNone a))) := rfl
@[simp] theorem e_isNot (a : RV) : gIsNot a (.d .none) = .ok (.d (.bool (!isNone a))) := rfl
@[simp] theorem e_isN1 : isNone (.d .none) = true := rfl
@[simp] theorem e_isN2 (a : Int) : isNone (.d (.int a)) = false := rfl
@[simp] theorem e_isN3 : isNone (.d (.tuple xs)) = false := rfl
@[simp] theorem e_isN4 : isNone (.d (.list xs)) = false := rfl
@[simp] theorem e_isN5 : isNone (.ol xs) = false := rfl
@[simp] theorem e_isN6 : isNone (.bl xs) = false := rfl
@[simp] theorem e_isN7 (s) : isNone (.d (.str s)) = false := rfl
@[simp] theorem e_ixT (a : Int) : gIx (.d (.tuple xs)) (.d (.int a)) = (rsO (atI xs a)).bind fun d => .ok (.d d) := rfl
@[simp] theorem e_ixL (a : Int) : gIx (.d (.list xs)) (.d (.int a)) = (rsO (atI xs a)).bind fun d => .ok (.d d) := rfl
@[simp] theorem e_ixO (a : Int) : gIx (.ol xs) (.d (.int a)) = (rsO (atI xs a)).bind fun d => .ok (.d d) := rfl
@[simp] theorem e_ixB (a : Int) : gIx (.bl xs) (.d (.int a)) = (rsO (atI xs a)).bind fun d => .ok (.d d) := rfl
@[simp] theorem e_ixSc (a : Int) (ns) : gIx (.sc ns) (.d (.int a)) = (rsO (atI (ns.map .int) a)).bind fun d => .ok (.d d) := rfl
@[simp] theorem e_ixS (a : Int) (z : Str) : gIx (.d (.str z)) (.d (.int a)) = if z.length ≤ 1000000 then (rsO (atI z.cps.toList a)).bind fun c => .ok (.d (.str ⟨#[c]⟩)) else .no := rfl
@[simp] theorem e_lenT : gLen [.d (.tuple xs)] = .ok (.d (.int xs.length)) := rfl
@[simp] theorem e_lenL : gLen [.d (.list xs)] = .ok (.d (.int xs.length)) := rfl
@[simp] theorem e_lenO : gLen [.ol xs] = .ok (.d (.int xs.length)) := rfl
@[simp] theorem e_lenB : gLen [.bl xs] = .ok (.d (.int xs.length)) := rfl
@[simp] theorem e_lenSc (ns : List Int) : gLen [.sc ns] = .ok (.d (.int ns.length)) := by show okI _ = _; simp
@[simp] theorem e_lenS (z : Str) : gLen [.d (.str z)] = if z.length ≤ 1000000 then .ok (.d (.int z.length)) else .no := rfl
@[simp] theorem e_tupT : gTupleC [.d (.tuple xs)] = .ok (.d (.tuple xs)) := rfl
@[simp] theorem e_tupL : gTupleC [.d (.list xs)] = .ok (.d (.tuple xs)) := rfl
@[simp] theorem e_tupO : gTupleC [.ol xs] = .ok (.d (.tuple xs)) := rfl
@[simp] theorem e_tupB : gTupleC [.bl xs] = .ok (.d (.tuple xs)) := rfl
@[simp] theorem e_lisT : gListC [.d (.tuple xs)] = .ok (.ol xs) := rfl
@[simp] theorem e_lisL : gListC [.d (.list xs)] = .ok (.ol xs) := rfl
@[simp] theorem e_lisO : gListC [.ol xs] = .ok (.ol xs) := rfl
@[simp] theorem e_lisB : gListC [.bl xs] = .ok (.ol xs) := rfl
@[simp] theorem e_min2 (a b : Int) : gMin2 [.d (.int a), .d (.int b)] = .ok (.d (.int (if b < a then b else a))) := rfl
@[simp] theorem e_max2 (a b : Int) : gMax2 [.d (.int a), .d (.int b)] = .ok (.d (.int (if b > a then b else a))) := rfl
@[simp] theorem e_any (r : RV) : gAny [r] = (rsO r.qv).bind fun xs => (rsO (boolsD xs)).bind fun bs => okB (bs.any id) := rfl
@[simp] theorem e_all (r : RV) : gAll [r] = (rsO r.qv).bind fun xs => (rsO (boolsD xs)).bind fun bs => okB (bs.all id) := rfl
@[simp] theorem e_sum (r : RV) : gSum [r] = (rsO r.qv).bind fun xs => (rsO (intsD xs)).bind fun bs => okI bs.sum := rfl
@[simp] theorem e_sorted (r : RV) : gSorted [r] = (rsO r.qv).bind fun xs => (rsO (intsD xs)).bind fun ns => .ok (.ol ((isort ns).map .int)) := rfl
@[simp] theorem e_rev (r : RV) : gRev r = (rsO r.qv).bind fun xs => .ok (.ol xs.reverse) := rfl
theorem e_R1 {a : Int} (h : a.natAbs ≤ 1000000) : gR1 [.d (.int a)] = .ok (rngL 0 a.toNat) := if_pos h
theorem e_R1n {n : Nat} (h : n ≤ 1000000) : gR1 [.d (.int n)] = .ok (rngL 0 n) := e_R1 (a := (n : Int)) h
theorem e_R2 {a b : Int} (h : a.natAbs ≤ 1000000) (h2 : b.natAbs ≤ 1000000) : gR2 [.d (.int a), .d (.int b)] = .ok (rngL a (b - a).toNat) := if_pos ⟨h, h2⟩
theorem e_R3 {a b : Int} (h : a.natAbs ≤ 1000000) (h2 : b.natAbs ≤ 1000000) : gR3 [.d (.int a), .d (.int b), .d (.int (-1))] = .ok ((List.range (a - b).toNat).map fun k : Nat => .int (a - (k : Int))) := if_pos ⟨rfl, h, h2⟩
@[simp] theorem e_sl (l h) : cSl fa l h env = (fa env).bind fun r => (l env).bind fun lo => (h env).bind fun hi => gSl r lo hi := rfl
@[simp] theorem e_oN : oN env = .ok none := rfl
@[simp] theorem e_isi (T : String) (r : RV) : gIsi T r = (rsO (r.data.bind tyD)).bind fun t => (rsO (kitB t T)).bind okB := rfl
@[simp] theorem e_lc (src own tg t) : cLc src own tg t fa env = (src env).bind fun xs => if xs.length ≤ 1000000 then (lcF tg t fa (wipeE env own) xs).bind fun ds => .ok (.ol ds) else .no := rfl
@[simp] theorem e_wipe0 : wipeE env [] = env := rfl
@[simp] theorem e_wipe1 (is) : wipeE env (i :: is) = (wipeE env is).set i none := rfl
theorem e_unp (tg) : sUnp tg fa env = (fa env).out env fun r => match r.toD with
  | some x => (match tgE tg x env with | some env' => .nx env' | none => .no)
  | none => .no := rfl
theorem e_app : sApp i fa env = match env[i]? with
  | some (some (.ol xs)) => (fa env).out env fun r => (match r.toD with
    | some d => if xs.length ≤ 1000000 then .nx (env.set i (some (.ol (xs ++ [d])))) else .no
    | none => .no)
  | _ => .no := rfl
theorem e_V : cV i env = match env[i]? with
  | some (some r) => .ok r.bor
  | _ => .no := rfl
theorem e_retV : sRetV i env = match env[i]? with
  | some (some r) => (r.nb).out env .rt
  | _ => .no := rfl
end
/-! ### subscripts -/
theorem atI_lt {α : Type} {xs : List α} {i : Int} (h0 : 0 ≤ i) (h : i < xs.length) : atI xs i = xs[i.toNat]? := by
  unfold atI ixN
  rw [if_pos h0, if_pos h]
  rfl
@[simp] theorem atI_zero {α : Type} (x : α) (xs : List α) : atI (x :: xs) 0 = some x := by
  have h : 0 < (x :: xs).length := by simp
  rw [atI_lt (Int.le_refl 0) (by omega)]
  rfl
theorem rngL_eq (n : Nat) : rngL 0 n = (List.range n).map fun k : Nat => .int (k : Int) := by
  unfold rngL
  congr 1
  funext k
  simp
/-! ### shapes -/
@[simp] theorem sh_int (i : Int) : SeqAt.shaped (.int i) = true := rfl
@[simp] theorem sh_none : SeqAt.shaped .none = true := rfl
@[simp] theorem sh_bool (b : Bool) : SeqAt.shaped (.bool b) = true := rfl
theorem can_ints : ∀ ns : List Int, PyData.canLayAll0 (ns.map .int) = true
  | [] => rfl
  | n :: ns => can_ints ns
theorem dep_ints : ∀ ns : List Int, PyData.depthAll (ns.map .int) = 0
  | [] => rfl
  | n :: ns => by rw [List.map_cons, PyData.depthAll, PyData.depth, dep_ints ns]; rfl
@[simp] theorem sh_tup (ns : List Int) : SeqAt.shaped (.tuple (ns.map .int)) = true := by
  unfold SeqAt.shaped
  rw [PyData.depth, dep_ints, PyData.canLay0, can_ints]
  rfl
@[simp] theorem sh_lst (ns : List Int) : SeqAt.shaped (.list (ns.map .int)) = true := by
  unfold SeqAt.shaped
  rw [PyData.depth, dep_ints, PyData.canLay0, can_ints]
  rfl
@[simp] theorem eqv_int (i j : Int) : PyData.eqv (.int i) (.int j) = decide (i = j) := by
  rw [PyData.eqv]
  by_cases h : i = j <;> simp [h]
theorem eqvAll_ints : ∀ xs ys : List Int, PyData.eqvAll (xs.map .int) (ys.map .int) = decide (xs = ys)
  | [], [] => rfl
  | [], _ :: _ => rfl
  | _ :: _, [] => rfl
  | x :: xs, y :: ys => by
    rw [List.map_cons, List.map_cons, PyData.eqvAll, eqvAll_ints xs ys, eqv_int]
    by_cases h : x = y <;> by_cases h2 : xs = ys <;> simp [h, h2]
@[simp] theorem eqv_tup (xs ys : List Int) : PyData.eqv (.tuple (xs.map .int)) (.tuple (ys.map .int)) = decide (xs = ys) := by rw [PyData.eqv, eqvAll_ints]
@[simp] theorem eqv_lst (xs ys : List Int) : PyData.eqv (.list (xs.map .int)) (.list (ys.map .int)) = decide (xs = ys) := by rw [PyData.eqv, eqvAll_ints]
theorem anyI (ns : List Int) (i : Int) : ((ns.map PyData.int).any fun z => PyData.eqv z (.int i)) = decide (i ∈ ns) := by
  rw [List.any_map]
  induction ns with
  | nil => rfl
  | cons n ns ih =>
    rw [List.any_cons, ih]
    simp only [Function.comp, eqv_int]
    by_cases h : n = i
    · simp [h]
    · by_cases h2 : i ∈ ns <;> simp [h, h2, Ne.symm h]
@[simp] theorem anyI' (ns : List Int) (i : Int) : (ns.any ((fun z => PyData.eqv z (.int i)) ∘ PyData.int)) = decide (i ∈ ns) := by rw [← List.any_map]; exact anyI ns i
end VL

namespace VL
open PySem PySem.Spec PyProof.Rows L2
/-! ## more constructs -/
section
variable {K : PySem.W.Frag} {ca : Nat → Addr}
def gRep (a b : RV) : Rs RV := match b with
  | .d (.int k) => (rsO a.lv).bind fun xs => if k.natAbs ≤ 1000000 ∧ xs.length * k.toNat ≤ 1000000 then .ok (.ol (List.replicate k.toNat xs).flatten) else .no
  | _ => .no
theorem DqA.rep {F : Hp} {ds : List PyData} {vs : List V} (h : DqA K F vs ds) : ∀ k : Nat, DqA K F (List.replicate k vs).flatten (List.replicate k ds).flatten
  | 0 => .nil
  | k + 1 => by
    rw [List.replicate_succ, List.replicate_succ, List.flatten_cons, List.flatten_cons]
    exact h.append (DqA.rep h k)
theorem s_rep : Op2S K ca rRep gRep := by
  intro W σ F0 H0 F H v1 v2 a b Q gr h1 h2 p
  unfold gRep at p
  split at p
  · rename_i k
    cases h2
    cases e : a.lv with
    | none => rw [e] at p; exact p.elim
    | some xs =>
      rw [e] at p
      simp only [rsO_some, Rs.bind_ok] at p
      split at p
      · rename_i hk
        obtain ⟨p1, vs, rfl, a1, q1⟩ := lv_ok gr.cfg.sub h1 e
        refine ⟨p1, k, vs, rfl, rfl, a1, by omega, by omega, ?_, fun l hl => ?_⟩
        · rw [q1.length]; exact Nat.le_of_lt (million hk.2)
        · have g2 := Grow.newO gr.cfg (.lst (List.replicate k.toNat vs).flatten) hl (fun _ z => by cases z)
          exact p _ _ _ (gr.trans g2) ⟨l, _, rfl, same_none gr.hh hl, same_none gr.cfg.sub hl, upd_same, q1.rep k.toNat⟩
      · exact p.elim
  · exact p.elim
end
section
variable {ca : Nat → Addr} {W : WX} {X : Cx} {a b c e : Expr} {es : List Expr} {fa fb fc : VEnv → Rs RV} {pos : Pos} {st : Stmt}
def sNo : VEnv → Out := fun _ => .no
theorem vs_never : VS ca W X st sNo := ⟨_, ps_never, fun _ _ _ _ _ _ _ p => p.elim⟩
/-! ### a list or a tuple walked -/
def iAny (K : PySem.W.Frag) (tl : TE) : TI := fun σ H R => tl σ H fun x H1 => ∃ a, x = .ref a ∧ (((∃ xs, SqL K H1 a xs) ∧ R (Itl K a) H1) ∨ ((∃ xs, SqT K H1 a xs) ∧ R (Itt K a) H1))
theorem pi_any {tg : Expr} {tl : TE} (hl : PE X e tl) : PI X tg e (iAny X.K tl) := by
  refine ⟨fun pns s0 σ H R I hyp => ?_⟩
  refine thn (hl.run pns s0 σ H _ I hyp) fun v s1 ⟨x, H1, I1, r1, a, ex, alt⟩ => ?_
  subst ex
  cases r1
  have fresh : ∀ b ∈ [s1.heap.objs.size], b = s1.heap.objs.size := fun b hb => by simpa using hb
  rcases alt with ⟨⟨xs, hq⟩, q⟩ | ⟨⟨xs, hq⟩, q⟩
  · obtain ⟨its, rv, pl, hz⟩ := I1.list hq
    refine wpAny_pyIter_list pl.isList ⟨s1.heap.objs.size, [s1.heap.objs.size], _, _, H1, rfl, I1.kept (t' := s1.toks) fun _ _ k => Heap.get?_push_of_some _ k, turn_list a _, ⟨_, Heap.get?_push_size _ rfl, rfl, rfl⟩, fun b hb => ?_, q⟩
    have eb := fresh b hb
    subst eb
    exact I1.fpOk (Nat.le_refl _) (I1.hok.fresh (Nat.le_refl _))
  · obtain ⟨its, rv, pl, hz⟩ := I1.tuple hq
    have pt : s1.heap.IsTuple a its.toArray := pl
    refine wpAny_pyIter_tuple pt ⟨s1.heap.objs.size, [s1.heap.objs.size], _, _, H1, rfl, I1.kept (t' := s1.toks) fun _ _ k => Heap.get?_push_of_some _ k, turn_tuple a _, ⟨_, Heap.get?_push_size _ rfl, rfl, rfl⟩, fun b hb => ?_, q⟩
    have eb := fresh b hb
    subst eb
    exact I1.fpOk (Nat.le_refl _) (I1.hok.fresh (Nat.le_refl _))
def gAq : RV → Rs (List PyData)
  | .d (.tuple xs) => .ok xs
  | r => gL r
def gAqb : RV → Rs (List PyData)
  | .d (.tuple xs) => .ok xs
  | r => gLb r
def iA (fe : VEnv → Rs RV) : VEnv → Rs (List PyData) := fun env => (fe env).bind gAq
def iAb (fe : VEnv → Rs RV) : VEnv → Rs (List PyData) := fun env => (fe env).bind gAqb
theorem vi_any {tg : Expr} (h : VE ca W X e fa) : VI ca W X tg e (iA fa) := by
  obtain ⟨t, p, s⟩ := h
  refine ⟨_, pi_any p, fun B F env σ H R st q => ?_⟩
  show t σ H fun x H1 => ∃ a, x = .ref a ∧ (((∃ xs, SqL X.K H1 a xs) ∧ R (Itl X.K a) H1) ∨ ((∃ xs, SqT X.K H1 a xs) ∧ R (Itt X.K a) H1))
  refine seqE (PostI X.K ca W σ F H R) s st q (fun _ _ h => h) (fun h => h) fun r F1 H1 v p1 g1 q1 => ?_
  cases r with
  | d x =>
    cases x with
    | list xs =>
      cases q1 with
      | lst h1 h2 => exact ⟨_, rfl, .inl ⟨⟨_, SqL.of (g1.cfg.sub _ _ h1)⟩, p1 _ F1 H1 _ g1 h2 (jw_list (SqL.of h1))⟩⟩
    | tuple xs =>
      cases q1 with
      | tup h1 h2 => exact ⟨_, rfl, .inr ⟨⟨_, same_seqT g1.cfg.sub h1⟩, p1 _ F1 H1 _ g1 h2 (jw_tup h1)⟩⟩
    | _ => exact p1.elim
  | ol xs =>
    obtain ⟨p, vs, rfl, n0, f, hp, q2⟩ := q1
    have g2 := g1.freeze n0 f hp
    have s2 : Same F1 (upd F1 p (.lst vs)) := fun b u k => by rw [upd_ne (ne_of_none k f)]; exact k
    exact ⟨p, rfl, .inl ⟨⟨_, SqL.of hp⟩, p1 _ _ H1 vs g2 (DqA.mono s2 _ _ q2) (jw_list (SqL.of upd_same))⟩⟩
  | sc ns =>
    obtain ⟨a, rfl, q2⟩ := q1
    exact ⟨a, rfl, .inl ⟨⟨_, g1.cfg.sub.seq q2⟩, p1 _ F1 H1 _ g1 (DqA.of_ints ns) (jw_list q2)⟩⟩
  | _ => exact p1.elim
theorem vj_any {tg : Expr} (h : VE ca W X e fa) : VJ ca W X tg e (iAb fa) := by
  obtain ⟨t, p, s⟩ := h
  refine ⟨_, pi_any p, fun B F env σ H R st q => ?_⟩
  show t σ H fun x H1 => ∃ a, x = .ref a ∧ (((∃ xs, SqL X.K H1 a xs) ∧ R (Itl X.K a) H1) ∨ ((∃ xs, SqT X.K H1 a xs) ∧ R (Itt X.K a) H1))
  refine seqE (PostJ X.K ca W σ F H R) s st q (fun _ _ h => h) (fun h => h) fun r F1 H1 v p1 g1 q1 => ?_
  cases r with
  | d x =>
    cases x with
    | list xs =>
      cases q1 with
      | lst h1 h2 => exact ⟨_, rfl, .inl ⟨⟨_, SqL.of (g1.cfg.sub _ _ h1)⟩, p1 _ F1 H1 _ g1 h2 (jw_list (SqL.of (g1.cfg.sub _ _ h1)))⟩⟩
    | tuple xs =>
      cases q1 with
      | tup h1 h2 => exact ⟨_, rfl, .inr ⟨⟨_, same_seqT g1.cfg.sub h1⟩, p1 _ F1 H1 _ g1 h2 (jw_tup (same_seqT g1.cfg.sub h1))⟩⟩
    | _ => exact p1.elim
  | ol xs =>
    obtain ⟨p, vs, rfl, n0, f, hp, q2⟩ := q1
    exact ⟨p, rfl, .inl ⟨⟨_, SqL.of hp⟩, p1 _ _ H1 vs g1 q2 (jw_list (SqL.of hp))⟩⟩
  | bl xs =>
    obtain ⟨p, vs, rfl, hp, q2⟩ := q1
    exact ⟨p, rfl, .inl ⟨⟨_, SqL.of hp⟩, p1 _ _ H1 vs g1 q2 (jw_list (SqL.of hp))⟩⟩
  | sc ns =>
    obtain ⟨a, rfl, q2⟩ := q1
    exact ⟨a, rfl, .inl ⟨⟨_, g1.cfg.sub.seq q2⟩, p1 _ F1 H1 _ g1 (DqA.of_ints ns) (jw_list (g1.cfg.sub.seq q2))⟩⟩
  | _ => exact p1.elim
@[simp] theorem e_iA (env : VEnv) : iA fa env = (fa env).bind gAq := rfl
@[simp] theorem e_iAb (env : VEnv) : iAb fa env = (fa env).bind gAqb := rfl
@[simp] theorem e_gAq1 (xs) : gAq (.d (.tuple xs)) = .ok xs := rfl
@[simp] theorem e_gAq2 (xs) : gAq (.d (.list xs)) = .ok xs := rfl
@[simp] theorem e_gAq3 (xs) : gAq (.ol xs) = .ok xs := rfl
@[simp] theorem e_gAqb1 (xs) : gAqb (.d (.tuple xs)) = .ok xs := rfl
@[simp] theorem e_gAqb2 (xs) : gAqb (.d (.list xs)) = .ok xs := rfl
@[simp] theorem e_gAqb3 (xs) : gAqb (.ol xs) = .ok xs := rfl
@[simp] theorem e_gAqb4 (xs) : gAqb (.bl xs) = .ok xs := rfl
@[simp] theorem e_no (env : VEnv) : sNo env = .no := rfl
theorem e_rep {xs : List PyData} {k : Int} {r : RV} (h : r.lv = some xs) (h1 : k.natAbs ≤ 1000000) (h2 : xs.length * k.toNat ≤ 1000000) : gRep r (.d (.int k)) = .ok (.ol (List.replicate k.toNat xs).flatten) := by
  show (rsO r.lv).bind _ = _
  rw [h]
  simp only [rsO_some, Rs.bind_ok]
  rw [if_pos ⟨h1, h2⟩]
theorem e_store (i : Nat) (fi fe : VEnv → Rs RV) (env : VEnv) : sStore i fi fe env = match env[i]? with
  | some (some (.ol xs)) => (fe env).out env fun r => (fi env).out env fun ix => (match r.toD, ix with
    | some d, .d (.int k) => (match ixN xs.length k with
      | some j => .nx (env.set i (some (.ol (xs.set j d))))
      | none => .no)
    | _, _ => .no)
  | _ => .no := rfl
/-! ### a < b < c -/
def cChI (g g' : RV → RV → Rs RV) (fc : VEnv → Rs RV) (env : VEnv) : RV → RV → Rs RV
  | .d (.int m), .d (.int n) => (g (.d (.int m)) (.d (.int n))).bind fun r => (asB r).bind fun k => if k = true then (fc env).bind fun z => g' (.d (.int n)) z else .ok (.d (.bool false))
  | _, _ => .no
def cCh (g g' : RV → RV → Rs RV) (fa fb fc : VEnv → Rs RV) : VEnv → Rs RV := fun env => (fa env).bind fun x => (fb env).bind fun y => cChI g g' fc env x y
@[simp] theorem e_cCh (g g') (env : VEnv) : cCh g g' fa fb fc env = (fa env).bind fun x => (fb env).bind fun y => cChI g g' fc env x y := rfl
@[simp] theorem e_cChI (g g') (env : VEnv) (m n : Int) : cChI g g' fc env (.d (.int m)) (.d (.int n)) = (g (.d (.int m)) (.d (.int n))).bind fun r => (asB r).bind fun k => if k = true then (fc env).bind fun z => g' (.d (.int n)) z else .ok (.d (.bool false)) := rfl
theorem snd_chain {K : PySem.W.Frag} {r r' : R2} {g g' : RV → RV → Rs RV} {ta tb tc : TE} (hr : Op2S K ca r g) (hr' : Op2S K ca r' g') (sa : SndE K ca W ta fa) (sb : SndE K ca W tb fb) (sc : SndE K ca W tc fc) : SndE K ca W (tChain r r' ta tb tc) (cCh g g' fa fb fc) := by
  intro B F env σ H Q st p
  show ta σ H fun x H1 => tb σ H1 fun y H2 => r x y H2 fun z H3 => ∃ k, z = .bl k ∧ (if k = true then tc σ H3 fun w' H4 => r' y w' H4 Q else Q (.bl false) H3)
  refine seqE (PostE K ca W σ F H Q) sa st p (fun _ _ h => h) (fun h => h) fun x F1 H1 v1 p1 g1 q1 => ?_
  refine seqE (PostE K ca W σ F H Q) sb (st.grow g1) p1 (fun _ _ h => PostX.mono g1 h) (fun h => h) fun y F2 H2 v2 p2 g2 q2 => ?_
  have g02 := g1.trans g2
  unfold cChI at p2
  split at p2
  · rename_i m n
    cases q1
    cases q2
    refine hr W σ F2 H2 F2 H2 _ _ (.d (.int m)) (.d (.int n)) _ (Grow.refl g2.cfg) (.int _) (.int _) ?_
    cases e : g (.d (.int m)) (.d (.int n)) with
    | ex c fs => rw [e] at p2; exact PostX.mono g02 p2
    | no => rw [e] at p2; exact p2
    | ok z =>
      rw [e] at p2
      simp only [Rs.bind_ok] at p2
      intro F3 H3 v3 g3 q3
      have g03 := g02.trans g3
      unfold asB at p2
      split at p2
      · rename_i k
        cases q3
        refine ⟨k, rfl, ?_⟩
        cases k with
        | false =>
          rw [if_neg Bool.false_ne_true]
          simp only [Rs.bind_ok, Bool.false_ne_true, if_false] at p2
          exact p2 F3 H3 _ g03 (.bl _)
        | true =>
          rw [if_pos rfl]
          simp only [Rs.bind_ok, if_true] at p2
          refine seqE (PostE K ca W σ F H Q) sc (st.grow g03) p2 (fun _ _ h => PostX.mono g03 h) (fun h => h) fun w F4 H4 v4 p4 g4 q4 => ?_
          exact hr' W σ F H F4 H4 _ v4 (.d (.int n)) w Q (g03.trans g4) (.int _) (q4.older g03.hh) p4
      · exact p2.elim
  · exact p2.elim
theorem ve_chain {op op' : CmpOp} {r r' : R2} {g g' : RV → RV → Rs RV} (ho : OpR X (compareOp op) r) (hr : Op2S X.K ca r g) (ho' : OpR X (compareOp op') r') (hr' : Op2S X.K ca r' g') (ha : VE ca W X a fa) (hb : VE ca W X b fb) (hc : VE ca W X c fc)
    (hm : lastMarks [op, op'] [b, c] = false := by with_unfolding_all rfl) : VE ca W X (.Compare a [op, op'] [b, c] pos) (cCh g g' fa fb fc) := by
  obtain ⟨ta, pa, sa⟩ := ha
  obtain ⟨tb, pb, sb⟩ := hb
  obtain ⟨tc, pc, sc⟩ := hc
  exact ⟨_, pe_chain ho ho' pa pb pc hm, snd_chain hr hr' sa sb sc⟩
theorem vt_chain {op op' : CmpOp} {r r' : R2} {g g' : RV → RV → Rs RV} (ho : OpR X (compareOp op) r) (hr : Op2S X.K ca r g) (ho' : OpR X (compareOp op') r') (hr' : Op2S X.K ca r' g') (ha : VE ca W X a fa) (hb : VE ca W X b fb) (hc : VE ca W X c fc)
    (hm : lastMarks [op, op'] [b, c] = false := by with_unfolding_all rfl) : VT ca W X (.Compare a [op, op'] [b, c] pos) (cB (cCh g g' fa fb fc)) := by
  obtain ⟨ta, pa, sa⟩ := ha
  obtain ⟨tb, pb, sb⟩ := hb
  obtain ⟨tc, pc, sc⟩ := hc
  exact ⟨_, pt_chain ho ho' pa pb pc hm, snd_test (snd_chain hr hr' sa sb sc)⟩
end
end VL

namespace VL
open PySem PySem.Spec PyProof.Rows L2
theorem e_fzE (i : Nat) (env : VEnv) : fzE i env = match env[i]? with
  | some (some (.ol xs)) => env.set i (some (.d (.list xs)))
  | _ => env := rfl
theorem tyD_list (xs) : tyD (.list xs) = some "list" := rfl
theorem tyD_tuple (xs) : tyD (.tuple xs) = some "tuple" := rfl
theorem tyD_int (a) : tyD (.int a) = some "int" := rfl
theorem kitB_ll : kitB "list" "list" = some true := by decide +kernel
theorem kitB_tt : kitB "tuple" "tuple" = some true := by decide +kernel
theorem kitB_lt : kitB "list" "tuple" = some false := by decide +kernel
theorem kitB_tl : kitB "tuple" "list" = some false := by decide +kernel
theorem kitB_ii : kitB "int" "int" = some true := by decide +kernel

theorem atI_cons {α : Type} (xs : List α) (n : Nat) (h : n < xs.length) : atI xs (n : Int) = xs[n]? := by
  rw [atI_lt (by omega) (by omega)]; rfl
theorem e_at1 {α : Type} (x0 x1 : α) (xs : List α) : atI (x0 :: x1 :: xs) 1 = some x1 := atI_cons _ 1 (by simp)
theorem e_at2 {α : Type} (x0 x1 x2 : α) (xs : List α) : atI (x0 :: x1 :: x2 :: xs) 2 = some x2 := atI_cons _ 2 (by simp)
theorem e_at3 {α : Type} (x0 x1 x2 x3 : α) (xs : List α) : atI (x0 :: x1 :: x2 :: x3 :: xs) 3 = some x3 := atI_cons _ 3 (by simp)
theorem e_at4 {α : Type} (x0 x1 x2 x3 x4 : α) (xs : List α) : atI (x0 :: x1 :: x2 :: x3 :: x4 :: xs) 4 = some x4 := atI_cons _ 4 (by simp)
theorem e_at5 {α : Type} (x0 x1 x2 x3 x4 x5 : α) (xs : List α) : atI (x0 :: x1 :: x2 :: x3 :: x4 :: x5 :: xs) 5 = some x5 := atI_cons _ 5 (by simp)
theorem e_at6 {α : Type} (x0 x1 x2 x3 x4 x5 x6 : α) (xs : List α) : atI (x0 :: x1 :: x2 :: x3 :: x4 :: x5 :: x6 :: xs) 6 = some x6 := atI_cons _ 6 (by simp)
theorem e_at7 {α : Type} (x0 x1 x2 x3 x4 x5 x6 x7 : α) (xs : List α) : atI (x0 :: x1 :: x2 :: x3 :: x4 :: x5 :: x6 :: x7 :: xs) 7 = some x7 := atI_cons _ 7 (by simp)
theorem e_at8 {α : Type} (x0 x1 x2 x3 x4 x5 x6 x7 x8 : α) (xs : List α) : atI (x0 :: x1 :: x2 :: x3 :: x4 :: x5 :: x6 :: x7 :: x8 :: xs) 8 = some x8 := atI_cons _ 8 (by simp)
theorem e_at9 {α : Type} (x0 x1 x2 x3 x4 x5 x6 x7 x8 x9 : α) (xs : List α) : atI (x0 :: x1 :: x2 :: x3 :: x4 :: x5 :: x6 :: x7 :: x8 :: x9 :: xs) 9 = some x9 := atI_cons _ 9 (by simp)
theorem e_atm {α : Type} (xs : List α) (x : α) : atI (xs ++ [x]) (-1) = some x := by
  have h : ixN (xs ++ [x]).length (-1) = some xs.length := by
    unfold ixN
    rw [if_neg (by decide), if_pos (by simp; omega)]
    congr 1
    simp
    omega
  unfold atI
  rw [h]
  simp
theorem eqv_bool (a b : Bool) : PyData.eqv (.bool a) (.bool b) = (a == b) := by cases a <;> cases b <;> rfl
theorem eqv_none : PyData.eqv .none .none = true := rfl
theorem tyD_bool (a) : tyD (.bool a) = some "bool" := rfl
theorem tyD_str (a) : tyD (.str a) = some "str" := rfl
theorem tyD_none : tyD .none = some "NoneType" := rfl
theorem kitB_bb : kitB "bool" "bool" = some true := by decide +kernel
theorem kitB_nb : kitB "NoneType" "bool" = some false := by decide +kernel
theorem kitB_bi : kitB "bool" "int" = some true := by decide +kernel
theorem kitB_ib : kitB "int" "bool" = some false := by decide +kernel
theorem kitB_nl : kitB "NoneType" "list" = some false := by decide +kernel
theorem kitB_nt : kitB "NoneType" "tuple" = some false := by decide +kernel
theorem e_andB (a b : Bool) : (if a = true then Rs.ok (RV.d (.bool b)) else Rs.ok (RV.d (.bool false))) = .ok (.d (.bool (a && b))) := by cases a <;> rfl
theorem e_orB (a b : Bool) : (if a = true then Rs.ok (RV.d (.bool true)) else Rs.ok (RV.d (.bool b))) = .ok (.d (.bool (a || b))) := by cases a <;> rfl
theorem e_andR (a b : Bool) : (if a = true then Rs.ok b else Rs.ok false) = .ok (a && b) := by cases a <;> rfl
theorem e_orR (a b : Bool) : (if a = true then Rs.ok true else Rs.ok b) = .ok (a || b) := by cases a <;> rfl

end VL

namespace VL
open PySem PySem.Spec PyProof.Rows L2
/-! ## defs with keyword-only parameters -/
section
variable {ca : Nat → Addr} {W : WX} {X : Cx} {e : Expr} {es : List Expr} {pos kpos : Pos} {nm : Option Str} {kws : List Keyword}
theorem fnD_ok {P : Program} {w : World} {K : PySem.W.Frag} {mg : Str → Option Value} {base : Heap} {x qual : Str} {sd : Stmt} {dl : List (Str × V)} {fA : Addr} {fd : FuncData} {N ps : List Str} {k : Nat} {body : VEnv → Out} (F : FunD K x qual (defArgs sd) (defBody sd) (defScope sd) [] dl fA fd) (S : FnScope N ps (defScope sd))
    (hb : ∀ (cdv : Value) (A : Around) (outer : List PySem.Env) (s : Shared) (H : Hp) (E : XK), Room k (A.deeper (envOfC qual (defScope sd) s.heap.objs.size fA cdv)) → Takes (cxOf (L2.CX P w) P w K mg base N qual (defScope sd) fA cdv A outer s H E) (fun cls dx _ H' => E cls dx H') →
      PassesOwn (model P w) (A.deeper (envOfC qual (defScope sd) s.heap.objs.size fA cdv)) (envOfC qual (defScope sd) s.heap.objs.size fA cdv) (cxOf (L2.CX P w) P w K mg base N qual (defScope sd) fA cdv A outer s H E).xe →
      VSs ca (fun cls dx _ H' => E cls dx H') (cxOf (L2.CX P w) P w K mg base N qual (defScope sd) fA cdv A outer s H E) (defBody sd) body) : FnOk P w K mg base (L2.CX P w) (k + 1) fA fd ps (spV K ca ps.length (fnD N.length body)) := by
  refine F.ok S (fun vs H Q E h => h.1) (fun cdv A outer s H vs Q E hr h => ?_)
  obtain ⟨hl, G, rs, c, pr, q⟩ := h
  obtain ⟨t, p, sn⟩ := hb cdv A outer s H E hr (takes_of rfl rfl rfl rfl) (passes_of rfl)
  refine ⟨t, p, sn ⟨G, H⟩ G _ _ H _ (start_ok N c pr) ?_⟩
  unfold fnD at q
  generalize hB : body (rs.map some ++ List.replicate (N.length - rs.length) none) = o at q ⊢
  cases o with
  | nx env => exact fun F' σ' H' s st => q F' H' .non st.gr .non
  | rt r => exact fun F' H' v g r => q F' H' v g r
  | ex c fs env => exact fun F' σ' H' cls dx s st x => q F' H' cls dx st.gr x
  | bk env => exact q.elim
  | ct env => exact q.elim
  | no => exact q.elim
theorem paired_app {α β : Type} {R : α → β → Prop} : ∀ {as : List α} {bs : List β} {cs : List α} {ds : List β}, Paired R as bs → Paired R cs ds → Paired R (as ++ cs) (bs ++ ds)
  | _, _, _, _, .nil, h => h
  | _, _, _, _, .cons a b, h => .cons a (paired_app b h)
theorem paired_D {K : PySem.W.Frag} {H0 F H : Hp} : ∀ {vs : List V} {ds : List PyData}, DqA K F vs ds → Paired (fun v r => RVok K H0 F H v r) vs (ds.map RV.d)
  | _, _, .nil => .nil
  | _, _, .cons a b => .cons a (paired_D b)
def KDs (K : PySem.W.Frag) (D : Addr) (l : List (Str × V)) : Prop := ∀ q ∈ l, ∃ u, PySem.W.nsIn K D q.1 = some (some u) ∧ RelV q.2 u
theorem kd_nil {K : PySem.W.Frag} {D : Addr} : KDs K D [] := fun _ h => absurd h (by simp)
theorem kd_cons {K : PySem.W.Frag} {D : Addr} {x : Str} {v : V} {u : Value} {l : List (Str × V)} (h : PySem.W.nsIn K D x = some (some u)) (r : RelV v u) (t : KDs K D l) : KDs K D ((x, v) :: l) := fun q hq => by
  rcases List.mem_cons.mp hq with rfl | hq
  · exact ⟨u, h, r⟩
  · exact t q hq
theorem fund_mk {K : PySem.W.Frag} {x qual : Str} {params : Arguments} {body : List Stmt} {scope : Scope} {f D : Addr} {dl : List (Str × V)} {oc doc pm cdv ct : Value} {od an : Option Addr} {osl : Array (Option Value)}
    (l : K.lookup f = some ⟨oc, od, .func (PySem.W.fnOf x qual params body scope .none (.ref D) doc pm an cdv ct), osl⟩) (c : PySem.W.codeIn K cdv qual = true) (k : PySem.W.keepIn K (.ref f) = true) (h : KDs K D dl) : FunD K x qual params body scope [] dl f (PySem.W.fnOf x qual params body scope .none (.ref D) doc pm an cdv ct) :=
  ⟨⟨_, _, _, _, _, _, _, _, _, _, rfl, l, c, .inl ⟨rfl, rfl⟩, .inr ⟨D, rfl, h⟩⟩, k⟩
/-- what is written for the values that lack: data that stands in K -/
def Still (K : PySem.W.Frag) (dvs : List V) (dds : List PyData) : Prop := ∀ F, DqA K F dvs dds
/-- a call where all keyword-only values lack -/
def DBn (K : PySem.W.Frag) (fd : FuncData) (ps : List Str) (dds : List PyData) : Prop := ∃ dvs, (∃ ds, Vals dvs ds ∧ Binds K fd ps ds) ∧ Still K dvs dds
/-- a call with n positional values and the keywords ks; dds: the data that lacks -/
def KDB (K : PySem.W.Frag) (fd : FuncData) (ps : List Str) (n : Nat) (ks : List Str) (dds : List PyData) : Prop := ∃ mz, (∃ mv, KBn K fd ps n ks (fun us ws => us ++ (ws ++ mv)) (fun vs zs => vs ++ (zs ++ mz))) ∧ Still K mz dds
/-- the values that defaults may be -/
theorem still_nil {K : PySem.W.Frag} : Still K [] [] := fun _ => .nil
theorem still_cons {K : PySem.W.Frag} {v : V} {d : PyData} {vs : List V} {ds : List PyData} (h : ∀ F, Dq K F v d) (t : Still K vs ds) : Still K (v :: vs) (d :: ds) := fun F => .cons (h F) (t F)
theorem still_tup0 {K : PySem.W.Frag} {T : Addr} {od : Option Addr} {n : Nat} {sl : Array (Option Value)} (l : K.lookup T = some ⟨.type "tuple", od, .seq #[] n, sl⟩) (F : Hp) : Dq K F (.ref T) (.tuple []) := .tup (.inr ⟨_, _, _, l, rfl, rfl, Nat.zero_le _, .nil⟩) .nil
/-- f(e, ..) where keyword-only values lack -/
theorem ve_callD {fA : Addr} {fd : FuncData} {ps : List Str} {x : Str} {p : Pos} {k n m : Nat} {dds : List PyData} {G : List RV → Rs RV} {f : VEnv → Rs (List RV)} (Fo : FnOk X.prog X.w X.K X.mg X.base (L2.CX X.prog X.w) k fA fd ps (spV X.K ca n G)) (hr : Room k X.A) (hg : Gl X x) (hm : X.mg x = some (.ref fA)) (hk : PySem.W.keepIn X.K (.ref fA) = true) (hb : DBn X.K fd ps dds) (tk : Takes X W)
    (ha : VA ca W X (e :: es) f) (hn : m + dds.length = n := by rfl) (hdb : (x == ("__debug__" : Str)) = false := by decide) (he : starEach (e :: es) X.env = (false, eval e X.env) :: starEach es X.env := by rfl) (hpl : (backTo pos (starEach es X.env)).any (·.1) = false := by rfl) :
    VE ca W X (.Call (.Name x p) (e :: es) [] pos) (cA (fun rs => if rs.length = m then G (rs.map RV.arg ++ dds.map RV.d) else .no) f) := by
  obtain ⟨t, pa, sa⟩ := ha
  obtain ⟨dvs, ⟨ds, hd, hb⟩, hS⟩ := hb
  refine ⟨_, pe_callSD Fo hr hg hm hk hb hd (fun σ => passAt tk σ) pa hdb he hpl, fun B F env σ H Q st q => ?_⟩
  show t σ H fun vs H1 => spV X.K ca n G (vs ++ dvs) H1 Q (WE W σ)
  refine seqA (PostE X.K ca W σ F H Q) sa st q (fun _ _ h => h) (fun h => h) fun rs F1 H1 vs p1 g1 q1 => ?_
  split at p1
  · rename_i hl
    obtain ⟨F2, g2, s2, q2⟩ := args_go g1 (Same.refl _) q1
    have q3 : Paired (fun v r => RVok X.K H1 F2 H1 v r) (vs ++ dvs) (rs.map RV.arg ++ dds.map RV.d) := paired_app q2 (paired_D (hS F2))
    refine ⟨by rw [Paired.length q3, List.length_append, List.length_map, List.length_map, hl, hn], F2, _, g2.cfg, q3, ?_⟩
    cases e1 : G (rs.map RV.arg ++ dds.map RV.d) with
    | ok r => rw [e1] at p1; exact fun G' H' v gg rr => p1 G' H' v (g2.trans gg) (rr.older g2.hh)
    | ex c fs => rw [e1] at p1; exact fun G' H' cls dx gg x => p1 G' H' cls dx (g2.trans gg) x
    | no => rw [e1] at p1; exact p1
  · exact p1.elim
/-! ### f(e, .., k = v, ..) -/
/-- the keywords' values -/
def VK1 (ca : Nat → Addr) (W : WX) (X : Cx) (kws : List Keyword) (f : VEnv → Rs (List RV)) : Prop := ∃ t, PK X kws t ∧ SndA X.K ca W t f
theorem vk_nil : VK1 ca W X [] aN := ⟨_, pk_nil, fun _ _ _ _ _ _ st p => p _ _ _ (Grow.refl st.cfg) .nil⟩
theorem vk_cons {f : VEnv → Rs RV} {g : VEnv → Rs (List RV)} (he : VE ca W X e f) (hr : VK1 ca W X kws g) : VK1 ca W X (⟨nm, e, kpos⟩ :: kws) (aC f g) := by
  obtain ⟨te, pe, se⟩ := he
  obtain ⟨tr, pr, sr⟩ := hr
  refine ⟨_, pk_cons pe pr, fun B F env σ H Q st p => ?_⟩
  show te σ H fun x H1 => tr σ H1 fun xs H2 => Q (x :: xs) H2
  refine seqE (PostA X.K ca W σ F H Q) se st p (fun _ _ h => h) (fun h => h) fun x F1 H1 v1 p1 g1 q1 => ?_
  refine seqA (PostA X.K ca W σ F H Q) sr (st.grow g1) p1 (fun _ _ h => PostX.mono g1 h) (fun h => h) fun xs F2 H2 vs p2 g2 q2 => ?_
  exact p2 F2 H2 (v1 :: vs) (g1.trans g2) (.cons (q1.grow g2) (paired_older g1.hh q2))
def tCallKW (n m : Nat) (sp : Sp) (mz : List V) (W : WX) (t tk : TA) : TE := fun σ H Q => t σ H fun vs H1 => tk σ H1 fun zs H2 => vs.length = n ∧ zs.length = m ∧ sp (vs ++ (zs ++ mz)) H2 Q (WE W σ)
theorem pe_callKW {CX : CXT} {k n : Nat} {f : Addr} {fd : FuncData} {ps ks : List Str} {sp : Sp} {x : Str} {p : Pos} {mv : List Value} {mz : List V} {t tk : TA} (F : FnOk X.prog X.w X.K X.mg X.base CX k f fd ps sp) (hr : Room k X.A) (hg : Gl X x) (hm : X.mg x = some (.ref f)) (hk : PySem.W.keepIn X.K (.ref f) = true)
    (hb : KBn X.K fd ps n ks (fun us ws => us ++ (ws ++ mv)) (fun vs zs => vs ++ (zs ++ mz))) (hx : ∀ σ, PassesAt CX X σ (WE W σ)) (ha : PA X (e :: es) t) (hkw : PK X kws tk) (hall : (backToKw pos (keywordEach kws X.env)).all (·.1.isSome) = true) (hks : (backToKw pos (keywordEach kws X.env)).filterMap (·.1) = ks)
    (hdb : (x == ("__debug__" : Str)) = false) (he : starEach (e :: es) X.env = (false, eval e X.env) :: starEach es X.env)
    (hpl : ((backTo pos (starEach (e :: es) X.env)).any (·.1) || (backToKw pos (keywordEach kws X.env)).any (·.1.isNone)) = false) : PE X (.Call (.Name x p) (e :: es) kws pos) (tCallKW n ks.length sp mz W t tk) := by
  refine ⟨fun pins s σ H Q I h => wpAny_Call_Name_kw (ld_glob I hg hm ?_ hdb)⟩
  refine PySem.W.callWith_KW (h₀ := X.base) I.ok.mod.kin hk hall (thn (ha.run pos pins s σ H _ I h) fun us s1 ⟨vs, H1, I1, r, q⟩ => ?_) hpl he
  refine thn (hkw.run pos pins s1 σ H1 _ I1 q) fun ws s2 ⟨zs, H2, I2, rz, l1, l2, q2⟩ => ⟨I2.kIn, ?_⟩
  rw [hks]
  refine wpAny_call (codeAny_mono (F.run X.A X.stack s2 H2 ⟨us, ks.zip ws⟩ (us ++ (ws ++ mv)) (vs ++ (zs ++ mz)) Q (WE W σ) hr I2.env0 (hb.to s2 us ws I2.kIn (r.length.symm.trans l1) (rz.length.symm.trans l2)) (hb.rel r rz) q2) fun r s' hq => ?_)
  cases r with
  | error ev => exact hx σ pins H2 s2 ev s' I2 hq
  | ok fl =>
    cases fl with
    | ret u => exact I2.after hq
    | next => exact hq.elim
    | brk => exact hq.elim
    | cont => exact hq.elim
/-- positional values, then the keywords', then those that lack -/
def cAK (h : List RV → List RV → Rs RV) (f g : VEnv → Rs (List RV)) : VEnv → Rs RV := fun env => (f env).bind fun rs => (g env).bind fun zs => h rs zs
theorem ve_callK {fA : Addr} {fd : FuncData} {ps ks : List Str} {x : Str} {p : Pos} {k n m : Nat} {dds : List PyData} {G : List RV → Rs RV} {f g : VEnv → Rs (List RV)} (Fo : FnOk X.prog X.w X.K X.mg X.base (L2.CX X.prog X.w) k fA fd ps (spV X.K ca n G)) (hr : Room k X.A) (hg : Gl X x) (hm : X.mg x = some (.ref fA)) (hk : PySem.W.keepIn X.K (.ref fA) = true)
    (hb : KDB X.K fd ps m ks dds) (tk : Takes X W)
    (ha : VA ca W X (e :: es) f) (hkw : VK1 ca W X kws g) (hn : m + (ks.length + dds.length) = n := by rfl) (hall : (backToKw pos (keywordEach kws X.env)).all (·.1.isSome) = true := by rfl) (hks : (backToKw pos (keywordEach kws X.env)).filterMap (·.1) = ks := by rfl)
    (hdb : (x == ("__debug__" : Str)) = false := by decide) (he : starEach (e :: es) X.env = (false, eval e X.env) :: starEach es X.env := by rfl)
    (hpl : ((backTo pos (starEach (e :: es) X.env)).any (·.1) || (backToKw pos (keywordEach kws X.env)).any (·.1.isNone)) = false := by rfl) :
    VE ca W X (.Call (.Name x p) (e :: es) kws pos) (cAK (fun rs zs => if rs.length = m ∧ zs.length = ks.length then G (rs.map RV.arg ++ (zs.map RV.arg ++ dds.map RV.d)) else .no) f g) := by
  obtain ⟨t, pa, sa⟩ := ha
  obtain ⟨t2, pk, sk⟩ := hkw
  obtain ⟨mz, ⟨mv, hb⟩, hS⟩ := hb
  refine ⟨_, pe_callKW Fo hr hg hm hk hb (fun σ => passAt tk σ) pa pk hall hks hdb he hpl, fun B F env σ H Q st q => ?_⟩
  show t σ H fun vs H1 => t2 σ H1 fun zs H2 => vs.length = m ∧ zs.length = ks.length ∧ spV X.K ca n G (vs ++ (zs ++ mz)) H2 Q (WE W σ)
  refine seqA (PostE X.K ca W σ F H Q) sa st q (fun _ _ h => h) (fun h => h) fun rs F1 H1 vs p1 g1 q1 => ?_
  refine seqA (PostE X.K ca W σ F H Q) sk (st.grow g1) p1 (fun _ _ h => PostX.mono g1 h) (fun h => h) fun zs F2 H2 ws p2 g2 q2 => ?_
  simp only at p2
  split at p2
  · rename_i hl
    have q1' : Paired (fun v r => RVok X.K H F2 H2 v r) vs rs := paired_grow g2 (paired_older (Same.refl _) q1)
    have q2' : Paired (fun v r => RVok X.K H F2 H2 v r) ws zs := paired_older g1.hh q2
    obtain ⟨F3, g3, s3, q3⟩ := args_go (g1.trans g2) (Same.refl _) (paired_app q1' q2')
    rw [List.map_append] at q3
    have q4 : Paired (fun v r => RVok X.K H2 F3 H2 v r) (vs ++ (ws ++ mz)) (rs.map RV.arg ++ (zs.map RV.arg ++ dds.map RV.d)) := by
      rw [← List.append_assoc, ← List.append_assoc]
      exact paired_app q3 (paired_D (hS F3))
    have l1 : vs.length = m := by rw [Paired.length q1, hl.1]
    have l2 : ws.length = ks.length := by rw [Paired.length q2, hl.2]
    refine ⟨l1, l2, by rw [Paired.length q4, List.length_append, List.length_append, List.length_map, List.length_map, List.length_map, hl.1, hl.2, hn], F3, _, g3.cfg, q4, ?_⟩
    cases e1 : G (rs.map RV.arg ++ (zs.map RV.arg ++ dds.map RV.d)) with
    | ok r => rw [e1] at p2; exact fun G' H' v gg rr => p2 G' H' v (g3.trans gg) (rr.older g3.hh)
    | ex c fs => rw [e1] at p2; exact fun G' H' cls dx gg x => p2 G' H' cls dx (g3.trans gg) x
    | no => rw [e1] at p2; exact p2
  · exact p2.elim
@[simp] theorem e_cAK (h) (f g : VEnv → Rs (List RV)) (env : VEnv) : cAK h f g env = (f env).bind fun rs => (g env).bind fun zs => h rs zs := rfl
end
end VL

namespace VL
open PySem PySem.Spec PyProof.Rows L2

/-! ## dicts whose keys are tuples of ints: the machine's side -/
abbrev tk (P : Program) (w : World) : HeapKind P w (List Int) := tupleKind (intKind P w)
section
variable {X : Cx} {pins : List (Addr × Obj)} {σ : L2.St} {H : Hp} {s : Shared} {a b p d : Addr} {ks : List Int} {xs : List (List Int × Addr × Value)} {n : Nat} {A : Around} {E : Value → Shared → Prop}
theorem items_ints {P : Program} {w : World} : ∀ {ks : List Int} {us : List Value}, Vals (ks.map V.int) us → ItemsAre (intKind P w) ks us
  | [], _, r => by rw [List.map_nil] at r; cases r; exact .nil
  | k :: ks, _, r => by
    rw [List.map_cons] at r
    cases r with
    | cons h t => obtain ⟨t1, rfl⟩ := h; exact .cons (by show Value.isInt k (.int k t1) = true; simp [Value.isInt]) (items_ints t)
theorem key_is (I : Inv X pins σ H s) (h : SqT X.K H b (ks.map V.int)) : (tk X.prog X.w).is s.heap ks b := by
  obtain ⟨its, r, ⟨o, ho, hc, n, hd⟩, _⟩ := I.tuple h
  exact ⟨o, its.toArray, n, ho, hc, hd, by simpa using items_ints r⟩
/-- all keys stand -/
def KeysIn (K : PySem.W.Frag) (H : Hp) (xs : List (List Int × Addr × Value)) : Prop := ∀ x ∈ xs, SqT K H x.2.1 (x.1.map V.int)
theorem dto_ok (I : Inv X pins σ H s) (e : H p = some (DTO p (n, xs))) (k : KeysIn X.K H xs) : s.heap.DictOfH (tk X.prog X.w) p xs ∧ xs.length ≤ sizeLine ∧ (p == sysModules) = false := by
  obtain ⟨⟨o, es, h1, h2, h3, h4, h5, h6, h7⟩, _⟩ := (show ObjOk X.prog X.w H s.heap p (.ext (DTOk p (n, xs))) from I.hok p _ e)
  exact ⟨⟨o, es, n, h1, h2, h3, h4, fun x hx => key_is I (k x hx), h5⟩, h6, h7⟩
theorem dto_new {P : Program} {w : World} {h : Heap} (dd : h.DictOfH (tk P w) p xs) (z : xs.length ≤ sizeLine) (hd : (p == sysModules) = false) : ∃ n, ∀ H, ObjOk P w H h p (DTO p (n, xs)) := by
  obtain ⟨o, es, ep, h1, h2, h3, h4, _, h5⟩ := dd
  refine ⟨ep, fun H => ⟨⟨o, es, h1, h2, h3, h4, h5, z, hd⟩, ⟨o, h1⟩, fun k1 k2 q k => ?_⟩⟩
  obtain ⟨o, es, h1, r⟩ := q
  exact ⟨o, es, k _ h1, r⟩
theorem storedH_len (xs : List (List Int × Addr × Value)) (k : List Int) (a : Addr) (v : Value) : (storedH xs k a v).length ≤ xs.length + 1 := by
  unfold storedH
  split <;> simp
/-- d[k] -/
abbrev rIxDT (K : PySem.W.Frag) : R2 := fun x y H Q => ∃ p b n xs ks q v, x = .ref p ∧ y = .ref b ∧ H p = some (DTO p (n, xs)) ∧ KeysIn K H xs ∧ SqT K H b (ks.map V.int) ∧ atKey xs ks = some q ∧ RelV v q.2 ∧ Q v H
theorem ix_dt (hu : X.A.units + 1 < cLine) : IxR X (rIxDT X.K) := by
  intro value slice pins s σ H x y v u Q I rx ry h hs
  obtain ⟨p, b, n, xs, ks, q, z, rfl, rfl, e, kk, hk, hq, rz, fin⟩ := h
  cases rx; cases ry
  obtain ⟨dd, z1, z2⟩ := dto_ok I e kk
  unfold subscriptTail
  refine wpAny_bind ?_
  rw [getitemInPython_of_ne dd.typeIs.not_modules]
  refine wpAny_bind (wpAny_specialOf dd.typeIs PySem.F.slot_dict_getitem.lookup ?_)
  have fin : wpAny (model X.prog X.w) X.A (subscripted slice false (.ref p) (.ref b)) (fun r s₃ => wpAny (model X.prog X.w) X.A (letTemporaryGo value (.ref p) r >>= fun _ => pure r) (EP X pins σ Q) X.xe s₃) X.xe s := by
    rw [hs]
    exact wpAny_operating (wpAny_getItem_heap (tupleKind_room_in1 hu) (key_is I hk) dd hq (wpAny_bind (wpAny_letTemporaryGo (wpAny_pure ⟨z, H, I.tok _, rz, fin⟩))))
  first
    | exact wpAny_pure (wpAny_bind fin)
    | exact wpAny_bind (wpAny_pure (wpAny_bind fin))
    | exact wpAny_bind fin
/-- d[k], keys ints and texts -/
abbrev rIxDK : R2 := fun x y H Q => ∃ a v, x = .ref a ∧ DGet H a y (some v) ∧ Q v H
theorem ix_dk (hu : X.A.units + 1 < cLine) : IxR X rIxDK := by
  intro value slice pins s σ H x y v u Q I rx ry h hs
  obtain ⟨p, z, rfl, g, fin⟩ := h
  cases rx
  have dd := dict_typeIs I g
  unfold subscriptTail
  refine wpAny_bind ?_
  rw [getitemInPython_of_ne dd.not_modules]
  refine wpAny_bind (wpAny_specialOf dd PySem.F.slot_dict_getitem.lookup ?_)
  have fin : wpAny (model X.prog X.w) X.A (subscripted slice false (.ref p) u) (fun r s₃ => wpAny (model X.prog X.w) X.A (letTemporaryGo value (.ref p) r >>= fun _ => pure r) (EP X pins σ Q) X.xe s₃) X.xe s := by
    rw [hs]
    exact wpAny_operating (d_getItem hu I g ry fun w' s3 I3 rw' => wpAny_bind (wpAny_letTemporaryGo (wpAny_pure ⟨z, H, I3, rw', fin⟩)))
  first
    | exact wpAny_pure (wpAny_bind fin)
    | exact wpAny_bind (wpAny_pure (wpAny_bind fin))
    | exact wpAny_bind fin
/-- k in d -/
abbrev rInDT (K : PySem.W.Frag) : R2 := fun x y H Q => ∃ p b n xs ks, x = .ref b ∧ y = .ref p ∧ H p = some (DTO p (n, xs)) ∧ KeysIn K H xs ∧ SqT K H b (ks.map V.int) ∧ Q (.bl (atKey xs ks).isSome) H
abbrev rNotInDT (K : PySem.W.Frag) : R2 := fun x y H Q => ∃ p b n xs ks, x = .ref b ∧ y = .ref p ∧ H p = some (DTO p (n, xs)) ∧ KeysIn K H xs ∧ SqT K H b (ks.map V.int) ∧ Q (.bl (!(atKey xs ks).isSome)) H
abbrev rInDK : R2 := fun y x H Q => ∃ a o, x = .ref a ∧ DGet H a y o ∧ Q (.bl o.isSome) H
abbrev rNotInDK : R2 := fun y x H Q => ∃ a o, x = .ref a ∧ DGet H a y o ∧ Q (.bl (!o.isSome)) H
theorem op_inDT (hu : X.A.units + 1 < cLine) : OpR X (compareOp .In) (rInDT X.K) := by
  intro pins s σ H x y v u Q I rx ry h
  obtain ⟨p, b, n, xs, ks, rfl, rfl, e, kk, hk, fin⟩ := h
  cases rx; cases ry
  obtain ⟨dd, z1, z2⟩ := dto_ok I e kk
  exact wpAny_in_heap (tupleKind_room_in1 hu) (key_is I hk) z2 dd ⟨.bl _, H, I.tok _, rfl, fin⟩
theorem op_notInDT (hu : X.A.units + 1 < cLine) : OpR X (compareOp .NotIn) (rNotInDT X.K) := by
  intro pins s σ H x y v u Q I rx ry h
  obtain ⟨p, b, n, xs, ks, rfl, rfl, e, kk, hk, fin⟩ := h
  cases rx; cases ry
  obtain ⟨dd, z1, z2⟩ := dto_ok I e kk
  exact wpAny_notIn_heap (tupleKind_room_in1 hu) (key_is I hk) z2 dd ⟨.bl _, H, I.tok _, rfl, fin⟩
theorem op_inDK (hu : X.A.units + 1 < cLine) : OpR X (compareOp .In) rInDK := by
  intro pins s σ H x y v u Q I rx ry h
  obtain ⟨a, o, rfl, g, fin⟩ := h
  cases ry
  exact d_in hu I g rx fun s' I' => ⟨.bl _, H, I', rfl, fin⟩
theorem op_notInDK (hu : X.A.units + 1 < cLine) : OpR X (compareOp .NotIn) rNotInDK := by
  intro pins s σ H x y v u Q I rx ry h
  obtain ⟨a, o, rfl, g, fin⟩ := h
  cases ry
  exact d_notIn hu I g rx fun s' I' => ⟨.bl _, H, I', rfl, fin⟩
/-- d[k] = v -/
def rSetDT (K : PySem.W.Frag) : V → V → V → Hp → (Hp → Prop) → Prop := fun o i v H Q => ∃ p b n xs ks, o = .ref p ∧ i = .ref b ∧ H p = some (DTO p (n, xs)) ∧ KeysIn K H xs ∧ SqT K H b (ks.map V.int) ∧ xs.length < sizeLine ∧ ∀ u n', RelV v u → Q (upd H p (DTO p (n', storedH xs ks b u)))
theorem set_dt (hu : X.A.units + 1 < cLine) : PSet X (rSetDT X.K) := by
  intro pins s σ H o i v ov iv u Q I ro ri rv h
  obtain ⟨p, b, n, xs, ks, rfl, rfl, e, kk, hk, hl, fin⟩ := h
  cases ro; cases ri
  obtain ⟨dd, z1, z2⟩ := dto_ok I e kk
  refine wpAny_setItem_heap (hsz := z1) (tupleKind_room_in1 hu) (key_is I hk) dd fun h' dd' hs => ?_
  have he : ∃ q, h'.get? p = some q := let ⟨q, _, _, hq, _⟩ := dd'; ⟨q, hq⟩
  obtain ⟨n', mk⟩ := dto_new dd' (Nat.le_trans (storedH_len xs ks b u) hl) z2
  exact ⟨_, d_write I (by rw [e]; exact True.intro) hs he (mk _), fin u n' rv⟩
def rSetDK : V → V → V → Hp → (Hp → Prop) → Prop := fun o i v H Q => ∃ p kvs k, o = .ref p ∧ i = kV k ∧ H p = some (.dK kvs) ∧ kvs.length < sizeLine ∧ Q (upd H p (.dK (putK kvs k v)))
theorem set_dk (hu : X.A.units + 1 < cLine) : PSet X rSetDK := by
  intro pins s σ H o i v ov iv u Q I ro ri rv h
  obtain ⟨p, kvs, k, rfl, rfl, e, hl, fin⟩ := h
  cases ro
  exact d_setItem hu I (DPut.k e hl) ri rv fun s' I' => ⟨_, I', fin⟩
def rOrS (r r' : V → V → V → Hp → (Hp → Prop) → Prop) : V → V → V → Hp → (Hp → Prop) → Prop := fun o i v H Q => r o i v H Q ∨ r' o i v H Q
theorem set_or {r r' : V → V → V → Hp → (Hp → Prop) → Prop} (h : PSet X r) (h' : PSet X r') : PSet X (rOrS r r') := by
  intro pins s σ H o i v ov iv u Q I ro ri rv q
  rcases q with q | q
  · exact h pins s σ H o i v ov iv u Q I ro ri rv q
  · exact h' pins s σ H o i v ov iv u Q I ro ri rv q
/-- d.get(k), d.get(k, x) -/
theorem dto_isD (I : Inv X pins σ H s) (e : H a = some (DTO a (n, xs))) (k : KeysIn X.K H xs) :
    s.TypeIs (.ref a) "dict" ∧ (∀ b, Value.ref a = .ref b → ∃ ob, s.heap.get? b = some ob ∧ ob.dict = none) ∧ (a == sysModules) = false := by
  obtain ⟨dd, z1, z2⟩ := dto_ok I e k
  refine ⟨dd.typeIs, fun b q => ?_, z2⟩
  cases q
  obtain ⟨ob, _, _, h1, h2, _⟩ := dd
  exact ⟨ob, h1, h2.2.1⟩
def tGet1 (td ty : TE) (K : PySem.W.Frag) : TE := fun σ H Q => td σ H fun x H1 => ∃ a, x = .ref a ∧ ((IsD H1 a ∧ ty σ H1 fun y H2 => ∃ o, DGet H2 a y o ∧ Q (o.getD .non) H2) ∨
  ∃ n xs, H1 a = some (DTO a (n, xs)) ∧ KeysIn K H1 xs ∧ ty σ H1 fun y H2 => ∃ b ks z, y = .ref b ∧ H2 a = some (DTO a (n, xs)) ∧ KeysIn K H2 xs ∧ SqT K H2 b (ks.map V.int) ∧ RelV z (((atKey xs ks).map (·.2)).getD .none) ∧ Q z H2)
def tGet2 (td ty tx : TE) (K : PySem.W.Frag) : TE := fun σ H Q => td σ H fun x H1 => ∃ a, x = .ref a ∧ ((IsD H1 a ∧ ty σ H1 fun y H2 => tx σ H2 fun z H3 => ∃ o, DGet H3 a y o ∧ Q (o.getD z) H3) ∨
  ∃ n xs, H1 a = some (DTO a (n, xs)) ∧ KeysIn K H1 xs ∧ ty σ H1 fun y H2 => tx σ H2 fun d H3 => ∃ b ks z, y = .ref b ∧ H3 a = some (DTO a (n, xs)) ∧ KeysIn K H3 xs ∧ SqT K H3 b (ks.map V.int) ∧ (∀ u, RelV d u → RelV z (((atKey xs ks).map (·.2)).getD u)) ∧ Q z H3)
end
section
variable {X : Cx} {o e f : Expr} {apos cpos : Pos} {td ty tx : TE}
theorem pe_get1 (hu : X.A.units + 1 < cLine) (ho : PE X o td) (he : PE X e ty) (m : M1 X o "get" apos e cpos) : PE X (.Call (.Attribute o "get" apos) [e] [] cpos) (tGet1 td ty X.K) := by
  refine ⟨fun pins s σ H Q I h => ?_⟩
  refine wpAny_Call_method m.base m.few m.line PySem.F.plainAttrs_dict PySem.F.slot_dict_get PySem.F.type_dict_get (thn (ho.run pins s σ H _ I h) fun u s1 ⟨x, H1, I1, rx, a, ex, q1⟩ => ?_)
  subst ex
  obtain rfl : u = Value.ref a := rx
  rw [m.trees]
  rcases q1 with ⟨d, q1⟩ | ⟨n, xs, e1, k1, q1⟩
  · obtain ⟨t1, t2, _⟩ := isD_at I1 d
    refine ⟨t1, t2, ?_⟩
    refine Calls.callWith_builtin rfl (Calls.evalArgs_plain (Calls.spliced_cons (thn (he.run pins s1 σ H1 _ I1 q1) fun iv s2 ⟨y, H2, I2, ry, ov, g, q2⟩ => Calls.spliced_nil ?_)))
    exact d_get1 hu I2 g ry fun w' s3 I3 rw' => ⟨_, H2, I3, rw', q2⟩
  · obtain ⟨t1, t2, _⟩ := dto_isD I1 e1 k1
    refine ⟨t1, t2, ?_⟩
    refine Calls.callWith_builtin rfl (Calls.evalArgs_plain (Calls.spliced_cons (thn (he.run pins s1 σ H1 _ I1 q1) fun iv s2 ⟨y, H2, I2, ry, b, ks, z, ey, e2, k2, hk, rz, q2⟩ => Calls.spliced_nil ?_)))
    subst ey
    cases (show iv = Value.ref b from ry)
    obtain ⟨dd, z1, z2⟩ := dto_ok I2 e2 k2
    exact call_meetsIn PySem.F.slot_dict_get dd.typeIs PySem.F.entry_dict_get (PySem.F.args_dict_get_2 _ _) (meetsH_dict_get (tk X.prog X.w) a b z2) ⟨tupleKind_room_in1 hu, ks, xs, key_is I2 hk, dd, ⟨z, H2, I2.tok _, rz, q2⟩⟩
theorem pe_get2 (hu : X.A.units + 1 < cLine) (ho : PE X o td) (he : PE X e ty) (hf : PE X f tx) (m : M2 X o "get" apos e f cpos) : PE X (.Call (.Attribute o "get" apos) [e, f] [] cpos) (tGet2 td ty tx X.K) := by
  refine ⟨fun pins s σ H Q I h => ?_⟩
  refine wpAny_Call_method m.base m.few m.line PySem.F.plainAttrs_dict PySem.F.slot_dict_get PySem.F.type_dict_get (thn (ho.run pins s σ H _ I h) fun u s1 ⟨x, H1, I1, rx, a, ex, q1⟩ => ?_)
  subst ex
  obtain rfl : u = Value.ref a := rx
  rw [m.trees]
  rcases q1 with ⟨d, q1⟩ | ⟨n, xs, e1, k1, q1⟩
  · obtain ⟨t1, t2, _⟩ := isD_at I1 d
    refine ⟨t1, t2, ?_⟩
    refine Calls.callWith_builtin rfl (Calls.evalArgs_plain (Calls.spliced_cons (thn (he.run pins s1 σ H1 _ I1 q1) fun iv s2 ⟨y, H2, I2, ry, q2⟩ =>
      Calls.spliced_cons (thn (hf.run pins s2 σ H2 _ I2 q2) fun fv s3 ⟨z, H3, I3, rz, ov, g, q3⟩ => Calls.spliced_nil ?_))))
    exact d_get2 hu I3 g ry rz fun w' s4 I4 rw' => ⟨_, H3, I4, rw', q3⟩
  · obtain ⟨t1, t2, _⟩ := dto_isD I1 e1 k1
    refine ⟨t1, t2, ?_⟩
    refine Calls.callWith_builtin rfl (Calls.evalArgs_plain (Calls.spliced_cons (thn (he.run pins s1 σ H1 _ I1 q1) fun iv s2 ⟨y, H2, I2, ry, q2⟩ =>
      Calls.spliced_cons (thn (hf.run pins s2 σ H2 _ I2 q2) fun fv s3 ⟨d, H3, I3, rd, b, ks, z, ey, e3, k3, hk, rz, q3⟩ => Calls.spliced_nil ?_))))
    subst ey
    cases (show iv = Value.ref b from ry)
    obtain ⟨dd, z1, z2⟩ := dto_ok I3 e3 k3
    exact call_meetsIn PySem.F.slot_dict_get dd.typeIs PySem.F.entry_dict_get (PySem.F.args_dict_get_3 _ _ _) (meetsH_dict_get_default (tk X.prog X.w) a b z2 fv) ⟨tupleKind_room_in1 hu, ks, xs, key_is I3 hk, dd, ⟨z, H3, I3.tok _, rz fv rd, q3⟩⟩
end
/-! displays -/
section
variable {X : Cx} {pos : Pos}
theorem dto_empty {P : Program} {w : World} {H : Hp} (h : Heap) (hb : sysModules < h.objs.size) : ObjOk P w H (h.push { cls := .type "dict", data := .dict #[] }) h.objs.size (DTO h.objs.size (0, [])) :=
  ⟨⟨_, #[], Heap.get?_push_size _ rfl, ⟨rfl, rfl, rfl⟩, rfl, rfl, List.nodup_nil, Nat.zero_le _, beq_eq_false_iff_ne.mpr (Ne.symm (Nat.ne_of_lt hb))⟩, ⟨_, Heap.get?_push_size _ rfl⟩, fun k1 k2 ⟨o, es, h1, r⟩ k => ⟨o, es, k _ h1, r⟩⟩
def tDNewO : TE := fun _ H Q => ∀ p, H p = none → Q (.ref p) (upd H p (DTO p (0, [])))
theorem pe_dnewO : PE X (.Dict [] [] pos) tDNewO := ⟨fun pins s σ H Q I h =>
  wpAny_Dict_empty ⟨.ref s.heap.objs.size, _, I.laid (a := s.heap.objs.size) (o := DTO s.heap.objs.size (0, [])) (t' := s.toks) (fun _ _ q => Heap.get?_push_of_some _ q) (Nat.le_refl _) (dto_empty s.heap I.big), rfl, h _ (I.hok.fresh (Nat.le_refl _))⟩⟩
/-- {k: v}, k a tuple of ints -/
def tDisp1 (K : PySem.W.Frag) (t1 t2 : TE) : TE := fun σ H Q => ∀ p, H p = none → t1 σ (upd H p (DTO p (0, []))) fun x H1 => t2 σ H1 fun y H2 => H2 p = some (DTO p (0, [])) ∧ ∃ b ks, x = .ref b ∧ SqT K H2 b (ks.map V.int) ∧ ∀ u n, RelV y u → Q (.ref p) (upd H2 p (DTO p (n, [(ks, b, u)])))
theorem pe_disp1 {k v : Expr} {t1 t2 : TE} (hu : X.A.units + 1 < cLine) (hk : PE X k t1) (hv : PE X v t2) : PE X (.Dict [some k] [v] pos) (tDisp1 X.K t1 t2) := by
  refine ⟨fun pins s σ H Q I q => ?_⟩
  have hn := I.hok.fresh (Nat.le_refl s.heap.objs.size)
  have I1 := I.laid (a := s.heap.objs.size) (o := DTO s.heap.objs.size (0, [])) (h' := s.heap.push { cls := .type "dict", data := .dict #[] }) (t' := s.toks) (fun _ _ q => Heap.get?_push_of_some _ q) (Nat.le_refl _) (dto_empty s.heap I.big)
  rw [arm_eval_Dict, zip_pairTrees [some k] [v] X.env pos rfl rfl, dictDisplay_pairs (pairTrees [some k] [v] X.env pos) (by simp [pairTrees]) (by simp [pairTrees])]
  refine wpAny_bind (wpAny_standAt (wpAny_bind (wpAny_subDictH (knd := tk X.prog X.w) (Q := fun d s' => wpAny (model X.prog X.w) X.A (pure (Value.ref d)) (EP X pins σ Q) X.xe s') (show X.A.units < cLine by omega) (by simp [pairTrees]) ?_)))
  refine pairTrees_cons_walk (thn (hk.run pins _ σ _ _ I1 (q _ hn)) fun kv s1 ⟨x, H1, I1, rx, q1⟩ => thn (hv.run pins s1 σ H1 _ I1 q1) fun vv s2 ⟨y, H2, I2, ry, e, b, ks, ex, hb, q2⟩ => pairTrees_nil_walk ?_)
  subst ex
  cases (show kv = Value.ref b from rx)
  obtain ⟨dd, z1, z2⟩ := dto_ok I2 e (fun x hx => absurd hx (by simp))
  refine ⟨[(ks, b, vv)], ⟨rfl, rfl, key_is I2 hb, True.intro⟩, dd, fun h' tk' dd' hs => ?_⟩
  have he : ∃ q, h'.get? s.heap.objs.size = some q := let ⟨q, _, _, hq, _⟩ := dd'; ⟨q, hq⟩
  obtain ⟨n', mk⟩ := dto_new dd' (by rw [sizeLine_eq]; show 1 ≤ 16777216; decide) z2
  exact wpAny_pure ⟨.ref _, _, d_write I2 (by rw [e]; exact True.intro) hs he (mk _), rfl, q2 vv n' ry⟩
end
end VL

namespace VL
open PySem PySem.Spec PyProof.Rows L2

/-! ## dicts as values -/
section
variable {κ : Type} [DecidableEq κ]
def dGet (kvs : List (κ × PyData)) (k : κ) : Option PyData := (kvs.find? fun p => decide (p.1 = k)).map (·.2)
def dPut (kvs : List (κ × PyData)) (k : κ) (d : PyData) : List (κ × PyData) :=
  if (kvs.any fun p => decide (p.1 = k)) = true then kvs.map (fun p => if p.1 = k then (p.1, d) else p) else kvs ++ [(k, d)]
def dDrop (kvs : List (κ × PyData)) (k : κ) : List (κ × PyData) := kvs.filter fun p => decide (p.1 ≠ k)
@[simp] theorem dGet_nil (k : κ) : dGet [] k = none := rfl
theorem dGet_cons (p : κ × PyData) (kvs : List (κ × PyData)) (k : κ) : dGet (p :: kvs) k = if p.1 = k then some p.2 else dGet kvs k := by
  unfold dGet
  by_cases h : p.1 = k <;> simp [List.find?_cons, h]
theorem dGet_any (kvs : List (κ × PyData)) (k : κ) : (kvs.any fun p => decide (p.1 = k)) = (dGet kvs k).isSome := by
  induction kvs with
  | nil => rfl
  | cons p kvs ih =>
    rw [List.any_cons, dGet_cons, ih]
    by_cases h : p.1 = k <;> simp [h]
theorem dGet_put (kvs : List (κ × PyData)) (k j : κ) (d : PyData) : dGet (dPut kvs k d) j = if j = k then some d else dGet kvs j := by
  unfold dPut
  by_cases a : (kvs.any fun p => decide (p.1 = k)) = true
  · rw [if_pos a]
    induction kvs with
    | nil => simp at a
    | cons p kvs ih =>
      rw [List.map_cons, dGet_cons, dGet_cons]
      by_cases h : p.1 = k
      · simp only [h, if_true]
        by_cases hj : k = j
        · simp [hj]
        · rw [if_neg hj, if_neg hj, if_neg (fun z => hj z.symm)]
          by_cases b : (kvs.any fun p => decide (p.1 = k)) = true
          · rw [ih b, if_neg (fun z => hj z.symm)]
          · congr 1
            have : kvs.map (fun p => if p.1 = k then (p.1, d) else p) = kvs.map id := by
              apply List.map_congr_left
              intro q hq
              have : ¬ q.1 = k := fun z => b (List.any_eq_true.mpr ⟨q, hq, by simp [z]⟩)
              simp [this]
            have h2 := this
            simp only [List.map_id] at h2
            exact h2
      · have b : (kvs.any fun p => decide (p.1 = k)) = true := by
          rw [List.any_cons] at a; simpa [h] using a
        simp only [h, if_false]
        rw [ih b]
        by_cases hj : p.1 = j
        · have : ¬ j = k := fun z => h (hj.trans z)
          simp [hj, this]
        · simp [hj]
  · rw [if_neg a]
    have n : dGet kvs k = none := by
      rw [dGet_any] at a
      cases e : dGet kvs k with
      | none => rfl
      | some x => rw [e] at a; simp at a
    clear a
    induction kvs with
    | nil => rw [List.nil_append, dGet_cons]; by_cases h : k = j <;> simp [h, eq_comm]
    | cons p kvs ih =>
      rw [List.cons_append, dGet_cons, dGet_cons]
      rw [dGet_cons] at n
      by_cases h : p.1 = k
      · simp [h] at n
      · rw [if_neg h] at n
        rw [ih n]
        by_cases hj : p.1 = j
        · have : ¬ j = k := fun z => h (hj.trans z)
          simp [hj, this]
        · simp [hj]
theorem dPut_new {kvs : List (κ × PyData)} {k : κ} (d : PyData) (h : dGet kvs k = none) : dPut kvs k d = kvs ++ [(k, d)] := by
  unfold dPut
  rw [dGet_any, h]
  rfl
theorem dPut_keys_old {kvs : List (κ × PyData)} {k : κ} (d : PyData) (h : (dGet kvs k).isSome = true) : (dPut kvs k d).map (·.1) = kvs.map (·.1) := by
  unfold dPut
  rw [dGet_any, if_pos h, List.map_map]
  apply List.map_congr_left
  intro p _
  by_cases e : p.1 = k <;> simp [e]
theorem dGet_drop (kvs : List (κ × PyData)) (k j : κ) : dGet (dDrop kvs k) j = if j = k then none else dGet kvs j := by
  unfold dDrop
  induction kvs with
  | nil => simp
  | cons p kvs ih =>
    rw [List.filter_cons, dGet_cons]
    by_cases h : p.1 = k
    · simp only [h, ne_eq, not_true, decide_false, Bool.false_eq_true, if_false]
      rw [ih]
      by_cases hj : k = j
      · simp [hj]
      · have : ¬ j = k := fun z => hj z.symm
        simp [hj, this]
    · simp only [h, ne_eq, not_false_eq_true, decide_true, if_true]
      rw [dGet_cons, ih]
      by_cases hj : p.1 = j
      · have : ¬ j = k := fun z => h (hj.trans z)
        simp [hj, this]
      · simp [hj]
end
def keyD : PyData → Option Key
  | .int i => some (.inl i)
  | .str x => some (.inr x)
  | _ => none
def keyTD : PyData → Option (List Int)
  | .tuple xs => intsD xs
  | _ => none
section
variable {K : PySem.W.Frag} {ca : Nat → Addr} {H0 F H : Hp} {v : V} {r : RV}
theorem keyD_ok {x : PyData} {k : Key} (h : Dq K F v x) (e : keyD x = some k) : v = kV k := by
  cases x with
  | int i => cases h; cases e; rfl
  | str i => cases h; cases e; rfl
  | _ => cases e
theorem keyTD_ok {x : PyData} {k : List Int} (h : Dq K F v x) (e : keyTD x = some k) : ∃ b, v = .ref b ∧ SqT K F b (k.map V.int) := by
  cases x with
  | tuple xs =>
    cases h with
    | tup h1 h2 =>
      have := ints_ok h2 e
      subst this
      exact ⟨_, rfl, h1⟩
  | _ => cases e
theorem KTl.keys {xs : List (List Int × Addr × Value)} {kvs : List (List Int × PyData)} (h : KTl K F xs kvs) (s : Same F H) : KeysIn K H xs := by
  induction h with
  | nil => intro x hx; simp at hx
  | cons h1 _ ih =>
    intro x hx
    rcases List.mem_cons.mp hx with rfl | hx
    · exact same_seqT s h1.2.1
    · exact ih x hx
theorem KTl.len {xs : List (List Int × Addr × Value)} {kvs : List (List Int × PyData)} (h : KTl K F xs kvs) : xs.length = kvs.length := Paired.length h
theorem atKey_cons (p : List Int × Addr × Value) (xs : List (List Int × Addr × Value)) (k : List Int) : atKey (p :: xs) k = if p.1 = k then some p.2 else atKey xs k := by
  unfold atKey
  by_cases h : p.1 = k <;> simp [List.find?_cons, h]
/-- what stands at a key, on both sides -/
theorem KTl.at {xs : List (List Int × Addr × Value)} {kvs : List (List Int × PyData)} (h : KTl K F xs kvs) (k : List Int) : (atKey xs k = none ∧ dGet kvs k = none) ∨ ∃ q d v, atKey xs k = some q ∧ dGet kvs k = some d ∧ RelV v q.2 ∧ Dq K F v d := by
  induction h with
  | nil => exact .inl ⟨rfl, rfl⟩
  | @cons p q ps qs h1 h2 ih =>
    rw [atKey_cons, dGet_cons, ← h1.1]
    by_cases e : p.1 = k
    · rw [if_pos e, if_pos e]
      obtain ⟨v, r1, r2⟩ := h1.2.2
      exact .inr ⟨_, _, v, rfl, rfl, r1, r2⟩
    · rw [if_neg e, if_neg e]; exact ih
theorem KTl.repl {xs : List (List Int × Addr × Value)} {kvs : List (List Int × PyData)} (h : KTl K F xs kvs) (k : List Int) {u : Value} {w : V} {d : PyData} (r : RelV w u) (dq : Dq K F w d) : KTl K F (xs.map (putAt k u)) (kvs.map fun p => if p.1 = k then (p.1, d) else p) := by
  induction h with
  | nil => exact .nil
  | @cons p q ps qs h1 h2 ih =>
    rw [List.map_cons, List.map_cons]
    refine .cons ?_ ih
    unfold putAt
    by_cases e : p.1 = k
    · rw [if_pos e, if_pos (h1.1.symm.trans e)]; exact ⟨h1.1, h1.2.1, w, r, dq⟩
    · rw [if_neg e, if_neg (fun z => e (h1.1.trans z))]; exact h1
theorem KTl.put {xs : List (List Int × Addr × Value)} {kvs : List (List Int × PyData)} (h : KTl K F xs kvs) (k : List Int) {b : Addr} {u : Value} {w : V} {d : PyData} (hb : SqT K F b (k.map V.int)) (r : RelV w u) (q : Dq K F w d) : KTl K F (storedH xs k b u) (dPut kvs k d) := by
  have e : (kvs.any fun p => decide (p.1 = k)) = (atKey xs k).isSome := by
    rw [dGet_any]
    rcases h.at k with ⟨a, b⟩ | ⟨q, d, v, a, b, _⟩ <;> rw [a, b] <;> rfl
  unfold storedH dPut
  rw [e]
  by_cases c : (atKey xs k).isSome = true
  · rw [if_pos c, if_pos c]; exact h.repl k r q
  · rw [if_neg c, if_neg c]; exact Paired.snoc h ⟨rfl, hb, w, r, q⟩
/-- keys ints and texts -/
theorem KD.at {xs : List (Key × V)} {kvs : List (Key × PyData)} (h : KD K F xs kvs) (k : Key) : (valV xs k = none ∧ dGet kvs k = none) ∨ ∃ v d, valV xs k = some v ∧ dGet kvs k = some d ∧ Dq K F v d := by
  induction h with
  | nil => exact .inl ⟨rfl, rfl⟩
  | @cons p q ps qs h1 h2 ih =>
    rw [dGet_cons, ← h1.1]
    by_cases e : p.1 = k
    · rw [if_pos e, valV_pos e]; exact .inr ⟨_, _, rfl, rfl, h1.2⟩
    · rw [if_neg e, valV_neg e]; exact ih
theorem KD.put {xs : List (Key × V)} {kvs : List (Key × PyData)} (h : KD K F xs kvs) (k : Key) {w : V} {d : PyData} (q : Dq K F w d) : KD K F (putK xs k w) (dPut kvs k d) := by
  have e : (kvs.any fun p => decide (p.1 = k)) = (xs.any fun p => decide (p.1 = k)) := by
    rw [dGet_any, valV_any]
    rcases h.at k with ⟨a, b⟩ | ⟨q, d, a, b, _⟩ <;> rw [a, b] <;> rfl
  unfold putK dPut
  rw [e]
  by_cases c : (xs.any fun p => decide (p.1 = k)) = true
  · rw [if_pos c, if_pos c]
    clear e c
    induction h with
    | nil => exact .nil
    | @cons p r ps qs h1 h2 ih =>
      rw [List.map_cons, List.map_cons]
      refine .cons ?_ ih
      by_cases e : p.1 = k
      · rw [if_pos e, if_pos (h1.1.symm.trans e)]; exact ⟨h1.1, q⟩
      · rw [if_neg e, if_neg (fun z => e (h1.1.trans z))]; exact h1
  · rw [if_neg c, if_neg c]; exact Paired.snoc h ⟨rfl, q⟩
theorem KD.drop {xs : List (Key × V)} {kvs : List (Key × PyData)} (h : KD K F xs kvs) (k : Key) : KD K F (dropK xs k) (dDrop kvs k) := by
  unfold dropK dDrop
  induction h with
  | nil => exact .nil
  | @cons p r ps qs h1 h2 ih =>
    rw [List.filter_cons, List.filter_cons, ← h1.1]
    by_cases e : p.1 = k
    · simp only [e, ne_eq, not_true, decide_false, Bool.false_eq_true, if_false]; exact ih
    · simp only [e, ne_eq, not_false_eq_true, decide_true, if_true]; exact .cons h1 ih
/-! ### d[k], k in d -/
def RV.dk : RV → Option (List (Key × PyData))
  | .od kvs => some kvs
  | .bd kvs => some kvs
  | _ => none
def RV.dt : RV → Option (List (List Int × PyData))
  | .ot kvs => some kvs
  | .bt kvs => some kvs
  | _ => none
theorem dk_ok {kvs : List (Key × PyData)} (h : RVok K H0 F H v r) (e : r.dk = some kvs) : ∃ p xs, v = .ref p ∧ H p = some (.dK xs) ∧ KD K F xs kvs := by
  cases r with
  | od ys => cases e; obtain ⟨p, vs, e1, _, _, hp, q⟩ := h; exact ⟨p, vs, e1, hp, q⟩
  | bd ys => cases e; obtain ⟨p, vs, e1, hp, q⟩ := h; exact ⟨p, vs, e1, hp, q⟩
  | _ => cases e
theorem dt_ok {kvs : List (List Int × PyData)} (h : RVok K H0 F H v r) (e : r.dt = some kvs) : ∃ p n xs, v = .ref p ∧ H p = some (DTO p (n, xs)) ∧ KTl K F xs kvs := by
  cases r with
  | ot ys => cases e; obtain ⟨p, ⟨n, vs⟩, e1, _, _, hp, q⟩ := h; exact ⟨p, n, vs, e1, hp, q⟩
  | bt ys => cases e; obtain ⟨p, ⟨n, vs⟩, e1, hp, q⟩ := h; exact ⟨p, n, vs, e1, hp, q⟩
  | _ => cases e
def RV.sd : RV → Option PyData
  | .d x => some x
  | _ => none
theorem sd_ok {x : PyData} (h : RVok K H0 F H v r) (e : r.sd = some x) : Dq K F v x := by
  cases r with
  | d y => cases e; exact h
  | _ => cases e
def gGetDK (kvs : List (Key × PyData)) (b : RV) : Rs (Option PyData) := (rsO (b.sd.bind keyD)).bind fun k => .ok (dGet kvs k)
def gGetDT (kvs : List (List Int × PyData)) (b : RV) : Rs (Option PyData) := (rsO (b.sd.bind keyTD)).bind fun k => .ok (dGet kvs k)
/-- what a dict holds at a key -/
def gAt (a b : RV) : Rs (Option PyData) := match a.dk with
  | some kvs => gGetDK kvs b
  | none => (match a.dt with
    | some kvs => gGetDT kvs b
    | none => .no)
theorem gAt_ok {v1 v2 : V} {a b : RV} {o : Option PyData} (s : Same F H) (h1 : RVok K H0 F H v1 a) (h2 : RVok K H0 F H v2 b) (e : gAt a b = .ok o) :
    (∃ p z, v1 = .ref p ∧ DGet H p v2 z ∧ ((z = none ∧ o = none) ∨ ∃ w d, z = some w ∧ o = some d ∧ Dq K F w d)) ∨
    (∃ p c n xs ks, v1 = .ref p ∧ v2 = .ref c ∧ H p = some (DTO p (n, xs)) ∧ KeysIn K H xs ∧ SqT K H c (ks.map V.int) ∧ ((atKey xs ks = none ∧ o = none) ∨ ∃ q d w, atKey xs ks = some q ∧ o = some d ∧ RelV w q.2 ∧ Dq K F w d)) := by
  unfold gAt at e
  cases e1 : a.dk with
  | some kvs =>
    rw [e1] at e
    obtain ⟨p, xs, rfl, hp, kd⟩ := dk_ok h1 e1
    simp only [gGetDK] at e
    cases e2 : b.sd with
    | none => rw [e2] at e; cases e
    | some x =>
      rw [e2] at e
      simp only [Option.bind_some] at e
      cases e3 : keyD x with
      | none => rw [e3] at e; cases e
      | some k =>
        rw [e3] at e
        simp only [rsO_some, Rs.bind_ok, Rs.ok.injEq] at e
        subst e
        obtain rfl := keyD_ok (sd_ok h2 e2) e3
        refine .inl ⟨p, _, rfl, DGet.k hp, ?_⟩
        rcases kd.at k with h | ⟨w, d, h⟩
        · exact .inl h
        · exact .inr ⟨w, d, h⟩
  | none =>
    rw [e1] at e
    simp only at e
    cases e4 : a.dt with
    | none => rw [e4] at e; cases e
    | some kvs =>
      rw [e4] at e
      obtain ⟨p, n, xs, rfl, hp, kd⟩ := dt_ok h1 e4
      simp only [gGetDT] at e
      cases e2 : b.sd with
      | none => rw [e2] at e; cases e
      | some x =>
        rw [e2] at e
        simp only [Option.bind_some] at e
        cases e3 : keyTD x with
        | none => rw [e3] at e; cases e
        | some k =>
          rw [e3] at e
          simp only [rsO_some, Rs.bind_ok, Rs.ok.injEq] at e
          subst e
          obtain ⟨c, rfl, hc⟩ := keyTD_ok (sd_ok h2 e2) e3
          exact .inr ⟨p, c, n, xs, k, rfl, rfl, hp, kd.keys s, same_seqT s hc, kd.at k⟩
def gIxD (a b : RV) : Rs RV := (gAt a b).bind fun o => (rsO o).bind fun d => .ok (.d d)
def gInD (a b : RV) : Rs RV := (gAt b a).bind fun o => okB o.isSome
def gNotInD (a b : RV) : Rs RV := (gAt b a).bind fun o => okB (!o.isSome)
theorem gAt_ex {a b : RV} {c : Nat} {fs : List (Str × PyData)} : gAt a b ≠ .ex c fs := fun e => by
  unfold gAt gGetDK gGetDT at e
  split at e
  · cases e2 : b.sd.bind keyD <;> rw [e2] at e <;> cases e
  · split at e
    · cases e2 : b.sd.bind keyTD <;> rw [e2] at e <;> cases e
    · cases e
theorem s_ixD : Op2S K ca (fun x y H Q => rIxDK x y H Q ∨ rIxDT K x y H Q) gIxD := by
  intro W σ F0 H0 F H v1 v2 a b Q gr h1 h2 p
  unfold gIxD at p
  cases e : gAt a b with
  | no => rw [e] at p; exact p.elim
  | ex c fs => exact absurd e gAt_ex
  | ok o =>
    rw [e] at p
    rcases gAt_ok gr.cfg.sub h1 h2 e with ⟨q, z, rfl, g, hz⟩ | ⟨q, c, n, xs, ks, rfl, rfl, hp, kk, hk, hz⟩
    · rcases hz with ⟨rfl, rfl⟩ | ⟨w, d, rfl, rfl, dq⟩
      · exact p.elim
      · exact .inl ⟨q, w, rfl, g, p F H _ gr dq⟩
    · rcases hz with ⟨_, rfl⟩ | ⟨q', d, w, hq, rfl, rw', dq⟩
      · exact p.elim
      · exact .inr ⟨q, c, n, xs, ks, q', w, rfl, rfl, hp, kk, hk, hq, rw', p F H _ gr dq⟩
theorem s_inD : Op2S K ca (rOr rInDK (rInDT K)) gInD := by
  intro W σ F0 H0 F H v1 v2 a b Q gr h1 h2 p
  unfold gInD at p
  cases e : gAt b a with
  | no => rw [e] at p; exact p.elim
  | ex c fs => exact absurd e gAt_ex
  | ok o =>
    rw [e] at p
    rcases gAt_ok gr.cfg.sub h2 h1 e with ⟨q, z, rfl, g, hz⟩ | ⟨q, c, n, xs, ks, rfl, rfl, hp, kk, hk, hz⟩
    · refine .inl ⟨q, z, rfl, g, ?_⟩
      rcases hz with ⟨rfl, rfl⟩ | ⟨w, d, rfl, rfl, dq⟩ <;> exact p F H _ gr (.bl _)
    · refine .inr ⟨q, c, n, xs, ks, rfl, rfl, hp, kk, hk, ?_⟩
      rcases hz with ⟨e1, rfl⟩ | ⟨q', d, w, hq, rfl, rw', dq⟩
      · rw [e1]; exact p F H _ gr (.bl _)
      · rw [hq]; exact p F H _ gr (.bl _)
theorem s_notInD : Op2S K ca (rOr rNotInDK (rNotInDT K)) gNotInD := by
  intro W σ F0 H0 F H v1 v2 a b Q gr h1 h2 p
  unfold gNotInD at p
  cases e : gAt b a with
  | no => rw [e] at p; exact p.elim
  | ex c fs => exact absurd e gAt_ex
  | ok o =>
    rw [e] at p
    rcases gAt_ok gr.cfg.sub h2 h1 e with ⟨q, z, rfl, g, hz⟩ | ⟨q, c, n, xs, ks, rfl, rfl, hp, kk, hk, hz⟩
    · refine .inl ⟨q, z, rfl, g, ?_⟩
      rcases hz with ⟨rfl, rfl⟩ | ⟨w, d, rfl, rfl, dq⟩ <;> exact p F H _ gr (.bl _)
    · refine .inr ⟨q, c, n, xs, ks, rfl, rfl, hp, kk, hk, ?_⟩
      rcases hz with ⟨e1, rfl⟩ | ⟨q', d, w, hq, rfl, rw', dq⟩
      · rw [e1]; exact p F H _ gr (.bl _)
      · rw [hq]; exact p F H _ gr (.bl _)
end
section
variable {ca : Nat → Addr} {W : WX} {X : Cx} {a b e : Expr} {es : List Expr} {fa fb fc : VEnv → Rs RV} {pos apos cpos : Pos}
theorem ix_d (hu : X.A.units + 1 < cLine) : IxR X (fun x y H Q => rIxDK x y H Q ∨ rIxDT X.K x y H Q) := (ix_dk hu).or (ix_dt hu)
theorem op_inD2 (hu : X.A.units + 1 < cLine) : OpR X (compareOp .In) (rOr rInDK (rInDT X.K)) := op_or' (op_inDK hu) (op_inDT hu)
theorem op_notInD2 (hu : X.A.units + 1 < cLine) : OpR X (compareOp .NotIn) (rOr rNotInDK (rNotInDT X.K)) := op_or' (op_notInDK hu) (op_notInDT hu)
theorem hu1 {A : Around} {k : Nat} (hr : Room k A) : A.units + 1 < cLine := by have := hr.un; omega
/-! ### {} -/
def cDT : VEnv → Rs RV := fun _ => .ok (.ot [])
def cDK : VEnv → Rs RV := fun _ => .ok (.od [])
theorem ve_dnewT : VE ca W X (.Dict [] [] pos) cDT := by
  refine ⟨_, pe_dnewO, fun B F env σ H Q st p q n => ?_⟩
  have g := Grow.newO st.cfg (DTO q (0, [])) n DTO_tup
  exact p _ _ _ g ⟨q, (0, []), rfl, n, same_none st.cfg.sub n, upd_same, .nil⟩
theorem ve_dnewK : VE ca W X (.Dict [] [] pos) cDK := by
  refine ⟨_, pe_dnewK, fun B F env σ H Q st p q n => ?_⟩
  have g := Grow.newO st.cfg (.dK []) n (fun _ z => by cases z)
  exact p _ _ _ g ⟨q, [], rfl, n, same_none st.cfg.sub n, upd_same, .nil⟩
/-- {k: v} -/
def cDisp1 (fa fb : VEnv → Rs RV) : VEnv → Rs RV := fun env => (fa env).bind fun x => (fb env).bind fun y => (rsO (x.sd.bind keyTD)).bind fun k => (rsO y.toD).bind fun d => .ok (.ot [(k, d)])
theorem ve_disp1 (hu : X.A.units + 1 < cLine) (ha : VE ca W X a fa) (hb : VE ca W X b fb) : VE ca W X (.Dict [some a] [b] pos) (cDisp1 fa fb) := by
  obtain ⟨ta, pa, sa⟩ := ha
  obtain ⟨tb, pb, sb⟩ := hb
  refine ⟨_, pe_disp1 hu pa pb, fun B F env σ H Q st p q n => ?_⟩
  have g := Grow.newO st.cfg (DTO q (0, [])) n DTO_tup
  have st0 := st.grow g
  refine seqE (PostE X.K ca W σ F H Q) sa st0 p (fun _ _ h => PostX.mono g h) (fun h => h) fun x F1 H1 v1 p1 g1 q1 => ?_
  refine seqE (PostE X.K ca W σ F H Q) sb (st0.grow g1) p1 (fun _ _ h => PostX.mono (g.trans g1) h) (fun h => h) fun y F2 H2 v2 p2 g2 q2 => ?_
  have hq : H2 q = some (DTO q (0, [])) := (g1.trans g2).hh _ _ upd_same
  cases e1 : x.sd with
  | none => rw [e1] at p2; exact p2.elim
  | some d1 =>
    rw [e1] at p2
    simp only [Option.bind_some] at p2
    cases e2 : keyTD d1 with
    | none => rw [e2] at p2; exact p2.elim
    | some k =>
      rw [e2] at p2
      simp only [rsO_some, Rs.bind_ok] at p2
      cases e3 : y.toD with
      | none => rw [e3] at p2; exact p2.elim
      | some d2 =>
        rw [e3] at p2
        simp only [rsO_some, Rs.bind_ok] at p2
        obtain ⟨c, rfl, hc⟩ := keyTD_ok (sd_ok (q1.grow g2) e1) e2
        obtain ⟨F3, g3, s3, q3⟩ := frz g2 (Fz.of q2 e3)
        have f1 : F1 q = none := g1.stillFree (same_none st.cfg.sub n) upd_same
        have f3 : F3 q = none := g3.stillFree f1 (g1.hh _ _ upd_same)
        have hc3 := same_seqT s3 hc
        refine ⟨hq, c, k, rfl, same_seqT g3.cfg.sub hc3, fun u n' ru => ?_⟩
        exact p2 _ _ _ ((g.trans (g1.trans g3)).write n f3 hq DTO_tup) ⟨q, (n', [(k, c, u)]), rfl, n, f3, upd_same, .cons ⟨rfl, hc3, v2, ru, q3⟩ .nil⟩
/-- {"a": "b", "c": "d"} -/
def cDispS (x y z w : Str) : VEnv → Rs RV := fun _ => .ok (.od [(.inr x, .str y), (.inr z, .str w)])
theorem ve_dispS {x y z w : Str} {k1 k2 k3 k4 : Nat} {p1 p2 p3 p4 : Pos} (hne : x ≠ z) : VE ca W X (.Dict [some (.Constant (.str x) k1 p1), some (.Constant (.str z) k2 p2)] [.Constant (.str y) k3 p3, .Constant (.str w) k4 p4] pos) (cDispS x y z w) := by
  refine ⟨_, pe_disp (pps_cons pe_str pe_str (pps_cons pe_str pe_str pps_nil)) rfl rfl (by simp) (by simp), fun B F env σ H Q st p q n => ?_⟩
  have g := Grow.newO st.cfg (.dK []) n (fun _ z => by cases z)
  have nF := same_none st.cfg.sub n
  refine ⟨upd_same, [(.inr x, .str y), (.inr z, .str w)], rfl, by simp, ?_⟩
  have e : mergeK [] [((.inr x : Key), V.str y), (.inr z, .str w)] = [((.inr x : Key), V.str y), (.inr z, .str w)] := by
    have h2 : ¬ ((Sum.inr x : Key) = .inr z) := fun h => hne (by injection h)
    show putK (putK [] (Sum.inr x) (V.str y)) (Sum.inr z) (V.str w) = _
    have h1 : putK [] (Sum.inr x : Key) (V.str y) = [(Sum.inr x, V.str y)] := rfl
    rw [h1, putK_new _ (by rw [valV_neg h2]; rfl)]
    rfl
  rw [e]
  exact p _ _ _ (g.write n nF upd_same (fun _ z => by cases z)) ⟨q, _, rfl, n, nF, upd_same, .cons ⟨rfl, .str _⟩ (.cons ⟨rfl, .str _⟩ .nil)⟩
/-! ### d[k] = e, xs[i] = e -/
/-- the store into a dict or a list of the def's own -/
def stR (r0 : RV) (ix : RV) (d : PyData) : Rs RV := match r0 with
  | .ol xs => (match ix with
    | .d (.int k) => (rsO (ixN xs.length k)).bind fun j => .ok (.ol (xs.set j d))
    | _ => .no)
  | .od kvs => (rsO (ix.sd.bind keyD)).bind fun k => if kvs.length ≤ 1000000 then .ok (.od (dPut kvs k d)) else .no
  | .ot kvs => (rsO (ix.sd.bind keyTD)).bind fun k => if kvs.length ≤ 1000000 then .ok (.ot (dPut kvs k d)) else .no
  | _ => .no
def sStoreA (i : Nat) (fi fe : VEnv → Rs RV) : VEnv → Out := fun env => match env[i]? with
  | some (some r0) => (fe env).out env fun r => (fi env).out env fun ix => (rsO r.toD).out env fun d => (stR r0 ix d).out env fun r1 => .nx (env.set i (some r1))
  | _ => .no
theorem vs_storeA (i : Nat) {x : Str} {ie : Expr} {p1 p2 : Pos} {fi : VEnv → Rs RV} (hu : X.A.units + 1 < cLine) (he : VE ca W X e fa) (hi : VE ca W X ie fi) (hN : X.N[i]? = some x := by rfl) (hv : Vis X.env.scope x := by first | exact Or.inl rfl | exact Or.inr (Or.inl rfl) | exact Or.inr (Or.inr rfl)) (hd : (x == ("__debug__" : Str)) = false := by decide) (hcd : (x == ("__classdict__" : Str)) = false := by decide)
    (ha : ∀ v, assign (.Subscript (.Name x p1) ie p2) X.env v = (do
      let ov ← holding [v] (eval (.Name x p1) X.env)
      let iv ← holding [v, ov] (eval ie X.env)
      standAt p2
      holding [v, ov, iv] (setItem ov iv v)
      release [v, ov, iv] []) := by intro _; rfl)
    (hs : swapsWithSole [.Subscript (.Name x p1) ie p2] e pos.line X.env = pure false := by rfl) (hw : swappedStores [.Subscript (.Name x p1) ie p2] e X.env = pure none := by rfl)
    (h1 : (assignEach [.Subscript (.Name x p1) ie p2] X.env).map (·.2) = [assign (.Subscript (.Name x p1) ie p2) X.env] := by rfl) :
    VS ca W X (.Assign [.Subscript (.Name x p1) ie p2] e pos) (sStoreA i fi fa) := by
  obtain ⟨t, pe, se⟩ := he
  obtain ⟨ti, pi, si⟩ := hi
  refine ⟨_, ps_asg pe (pg_sub (pe_var hN hv hd hcd) pi (set_or set_list (set_or (set_dk hu) (set_dt hu))) ha) hs hw h1, fun B F env σ H D st p => ?_⟩
  show t σ H fun v H1 => ∃ o, σ[i]? = some (some o) ∧ ti σ H1 fun iv H3 => rOrS rSetL (rOrS rSetDK (rSetDT X.K)) o iv v H3 fun H4 => D.nx σ H4
  unfold sStoreA at p
  split at p
  · rename_i r0 e1
    obtain ⟨v0, s1, ok0⟩ := st.sl i r0 e1
    refine outE se st p fun r F1 H1 v p1 g q1 => ⟨_, s1, ?_⟩
    refine outE si (st.grow g) p1 fun ix F2 H2 w p2 g2 q2 => ?_
    cases e2 : r.toD with
    | none => rw [e2] at p2; exact p2.elim
    | some d =>
      rw [e2] at p2
      simp only [rsO_some, Rs.out_ok] at p2
      obtain ⟨F3, g3, s3, q3⟩ := frz (g.trans g2) (Fz.of (q1.grow g2) e2)
      cases r0 with
      | ol xs =>
        obtain ⟨a, vs, rfl, n0, f0, hp, q⟩ := ok0
        have hp3 := g3.hh _ _ hp
        have f3 := g3.stillFree f0 hp
        cases ix with
        | d y =>
          cases y with
          | int k =>
            simp only [stR] at p2
            cases e3 : ixN xs.length k with
            | none => rw [e3] at p2; exact p2.elim
            | some j =>
              rw [e3] at p2
              cases q2
              refine .inl ⟨a, vs, k, j, rfl, rfl, hp3, by rw [q.length]; exact e3, ?_⟩
              exact p2 F3 σ _ s3 ((st.grow g3).write (r1 := .ol (xs.set j d)) e1 rfl s1 hp3 n0 f3 (fun _ z => by cases z) ⟨a, _, rfl, n0, f3, upd_same, DqA.set q3 j (DqA.mono g3.ff _ _ q)⟩ rfl)
          | _ => exact p2.elim
        | _ => exact p2.elim
      | od kvs =>
        obtain ⟨a, vs, rfl, n0, f0, hp, q⟩ := ok0
        have hp3 := g3.hh _ _ hp
        have f3 := g3.stillFree f0 hp
        simp only [stR] at p2
        cases e4 : ix.sd with
        | none => rw [e4] at p2; exact p2.elim
        | some y =>
          rw [e4] at p2
          simp only [Option.bind_some] at p2
          cases e5 : keyD y with
          | none => rw [e5] at p2; exact p2.elim
          | some k =>
            rw [e5] at p2
            simp only [rsO_some, Rs.bind_ok] at p2
            split at p2
            · rename_i hz
              obtain rfl := keyD_ok (sd_ok q2 e4) e5
              refine .inr (.inl ⟨a, vs, k, rfl, rfl, hp3, by rw [q.length]; exact million hz, ?_⟩)
              exact p2 F3 σ _ s3 ((st.grow g3).write (r1 := .od (dPut kvs k d)) e1 rfl s1 hp3 n0 f3 (fun _ z => by cases z) ⟨a, _, rfl, n0, f3, upd_same, (q.mono g3.ff).put k q3⟩ rfl)
            · exact p2.elim
      | ot kvs =>
        obtain ⟨a, ⟨n, vs⟩, rfl, n0, f0, hp, q⟩ := ok0
        have hp3 := g3.hh _ _ hp
        have f3 := g3.stillFree f0 hp
        simp only [stR] at p2
        cases e4 : ix.sd with
        | none => rw [e4] at p2; exact p2.elim
        | some y =>
          rw [e4] at p2
          simp only [Option.bind_some] at p2
          cases e5 : keyTD y with
          | none => rw [e5] at p2; exact p2.elim
          | some k =>
            rw [e5] at p2
            simp only [rsO_some, Rs.bind_ok] at p2
            split at p2
            · rename_i hz
              obtain ⟨c, rfl, hc⟩ := keyTD_ok (sd_ok q2 e4) e5
              have q' : KTl X.K F3 vs kvs := q.mono g3.ff
              have hc3 := same_seqT s3 hc
              refine .inr (.inr ⟨a, c, n, vs, k, rfl, rfl, hp3, q'.keys g3.cfg.sub, same_seqT g3.cfg.sub hc3, by rw [q'.len]; exact million hz, fun u n' ru => ?_⟩)
              exact p2 F3 σ _ s3 ((st.grow g3).write (r1 := .ot (dPut kvs k d)) e1 rfl s1 hp3 n0 f3 DTO_tup ⟨a, (n', _), rfl, n0, f3, upd_same, q'.put k hc3 ru q3⟩ rfl)
            · exact p2.elim
      | _ => exact p2.elim
  · exact p.elim
/-- del d[k] -/
def sDel (i : Nat) (fi : VEnv → Rs RV) : VEnv → Out := fun env => match env[i]? with
  | some (some (.od kvs)) => (fi env).out env fun ix => (rsO (ix.sd.bind keyD)).out env fun k => if (dGet kvs k).isSome = true then .nx (env.set i (some (.od (dDrop kvs k)))) else .no
  | _ => .no
theorem vs_del (i : Nat) {x : Str} {ie : Expr} {p1 p2 : Pos} {fi : VEnv → Rs RV} (hi : VE ca W X ie fi) (hN : X.N[i]? = some x := by rfl) (hv : Vis X.env.scope x := by first | exact Or.inl rfl | exact Or.inr (Or.inl rfl) | exact Or.inr (Or.inr rfl)) (hd : (x == ("__debug__" : Str)) = false := by decide) (hcd : (x == ("__classdict__" : Str)) = false := by decide) :
    VS ca W X (.Delete [.Subscript (.Name x p1) ie p2] pos) (sDel i fi) := by
  obtain ⟨ti, pi, si⟩ := hi
  refine ⟨_, ps_ddel (pe_var hN hv hd hcd) pi, fun B F env σ H D st p => ?_⟩
  show ∃ v, σ[i]? = some (some v) ∧ ti σ H fun y H2 => ∃ a kvs k, v = .ref a ∧ H2 a = some (.dK kvs) ∧ y = kV k ∧ (valV kvs k).isSome = true ∧ D.nx σ (upd H2 a (.dK (dropK kvs k)))
  unfold sDel at p
  split at p
  · rename_i kvs e1
    obtain ⟨v0, s1, a, vs, rfl, n0, f0, hp, q⟩ := st.sl i _ e1
    refine ⟨_, s1, ?_⟩
    refine outE si st p fun ix F2 H2 w p2 g2 q2 => ?_
    cases e4 : ix.sd with
    | none => rw [e4] at p2; exact p2.elim
    | some y =>
      rw [e4] at p2
      simp only [Option.bind_some] at p2
      cases e5 : keyD y with
      | none => rw [e5] at p2; exact p2.elim
      | some k =>
        rw [e5] at p2
        simp only [rsO_some, Rs.out_ok] at p2
        split at p2
        · rename_i hz
          obtain rfl := keyD_ok (sd_ok q2 e4) e5
          have hp2 := g2.hh _ _ hp
          have f2 := g2.stillFree f0 hp
          have q' := q.mono g2.ff
          refine ⟨a, vs, k, rfl, hp2, rfl, ?_, ?_⟩
          · rcases q'.at k with ⟨_, h⟩ | ⟨w, d, h, _⟩
            · rw [h] at hz; cases hz
            · rw [h]; rfl
          · exact p2 F2 σ _ (Same.refl _) ((st.grow g2).write (r1 := .od (dDrop kvs k)) e1 rfl s1 hp2 n0 f2 (fun _ z => by cases z) ⟨a, _, rfl, n0, f2, upd_same, q'.drop k⟩ rfl)
        · exact p2.elim
  · exact p.elim
/-! ### d.get -/
theorem gGetDK_ok {K : PySem.W.Frag} {H0 F H : Hp} {v : V} {y : RV} {kvs : List (Key × PyData)} {o : Option PyData} (h : RVok K H0 F H v y) (e : gGetDK kvs y = .ok o) : ∃ k, v = kV k ∧ o = dGet kvs k := by
  unfold gGetDK at e
  cases e2 : y.sd with
  | none => rw [e2] at e; cases e
  | some x =>
    rw [e2] at e
    simp only [Option.bind_some] at e
    cases e3 : keyD x with
    | none => rw [e3] at e; cases e
    | some k =>
      rw [e3] at e
      simp only [rsO_some, Rs.bind_ok, Rs.ok.injEq] at e
      exact ⟨k, keyD_ok (sd_ok h e2) e3, e.symm⟩
theorem gGetDT_ok {K : PySem.W.Frag} {H0 F H : Hp} {v : V} {y : RV} {kvs : List (List Int × PyData)} {o : Option PyData} (h : RVok K H0 F H v y) (e : gGetDT kvs y = .ok o) : ∃ c ks, v = .ref c ∧ SqT K F c (ks.map V.int) ∧ o = dGet kvs ks := by
  unfold gGetDT at e
  cases e2 : y.sd with
  | none => rw [e2] at e; cases e
  | some x =>
    rw [e2] at e
    simp only [Option.bind_some] at e
    cases e3 : keyTD x with
    | none => rw [e3] at e; cases e
    | some k =>
      rw [e3] at e
      simp only [rsO_some, Rs.bind_ok, Rs.ok.injEq] at e
      obtain ⟨c, rfl, hc⟩ := keyTD_ok (sd_ok h e2) e3
      exact ⟨c, k, rfl, hc, e.symm⟩
theorem gGetDK_ex {y : RV} {kvs : List (Key × PyData)} {c : Nat} {fs : List (Str × PyData)} : gGetDK kvs y ≠ .ex c fs := fun e => by
  unfold gGetDK at e
  cases e2 : y.sd.bind keyD <;> rw [e2] at e <;> cases e
theorem gGetDT_ex {y : RV} {kvs : List (List Int × PyData)} {c : Nat} {fs : List (Str × PyData)} : gGetDT kvs y ≠ .ex c fs := fun e => by
  unfold gGetDT at e
  cases e2 : y.sd.bind keyTD <;> rw [e2] at e <;> cases e
def cGet1 (fa fb : VEnv → Rs RV) : VEnv → Rs RV := fun env => (fa env).bind fun x => match x.dk with
  | some kvs => (fb env).bind fun y => (gGetDK kvs y).bind fun o => .ok (.d (o.getD .none))
  | none => (match x.dt with
    | some kvs => (fb env).bind fun y => (gGetDT kvs y).bind fun o => .ok (.d (o.getD .none))
    | none => .no)
def cGet2 (fa fb fc : VEnv → Rs RV) : VEnv → Rs RV := fun env => (fa env).bind fun x => match x.dk with
  | some kvs => (fb env).bind fun y => (fc env).bind fun z => (rsO z.sd).bind fun d => (gGetDK kvs y).bind fun o => .ok (.d (o.getD d))
  | none => (match x.dt with
    | some kvs => (fb env).bind fun y => (fc env).bind fun z => (rsO z.sd).bind fun d => (gGetDT kvs y).bind fun o => .ok (.d (o.getD d))
    | none => .no)
theorem ve_get1 (hu : X.A.units + 1 < cLine) (ha : VE ca W X a fa) (hb : VE ca W X b fb) (m : M1 X a "get" apos b cpos) : VE ca W X (.Call (.Attribute a "get" apos) [b] [] cpos) (cGet1 fa fb) := by
  obtain ⟨ta, pa, sa⟩ := ha
  obtain ⟨tb, pb, sb⟩ := hb
  refine ⟨_, pe_get1 hu pa pb m, fun B F env σ H Q st p => ?_⟩
  unfold tGet1
  refine seqE (PostE X.K ca W σ F H Q) sa st p (fun _ _ h => h) (fun h => h) fun x F1 H1 v1 p1 g1 q1 => ?_
  cases e1 : x.dk with
  | some kvs =>
    rw [e1] at p1
    obtain ⟨p', xs, rfl, hp, kd⟩ := dk_ok q1 e1
    refine ⟨p', rfl, .inl ⟨.inl ⟨xs, .inl hp⟩, ?_⟩⟩
    refine seqE (PostE X.K ca W σ F H Q) sb (st.grow g1) p1 (fun _ _ h => PostX.mono g1 h) (fun h => h) fun y F2 H2 v2 p2 g2 q2 => ?_
    cases e : gGetDK kvs y with
    | no => rw [e] at p2; exact p2.elim
    | ex c fs => exact absurd e gGetDK_ex
    | ok o =>
      rw [e] at p2
      obtain ⟨k, rfl, rfl⟩ := gGetDK_ok q2 e
      refine ⟨_, DGet.k (g2.hh _ _ hp), ?_⟩
      rcases (kd.mono g2.ff).at k with ⟨h1, h2⟩ | ⟨w, d, h1, h2, dq⟩
      · rw [h2] at p2; rw [h1]; exact p2 F2 H2 _ (g1.trans g2) .non
      · rw [h2] at p2; rw [h1]; exact p2 F2 H2 _ (g1.trans g2) dq
  | none =>
    rw [e1] at p1
    cases e4 : x.dt with
    | none => rw [e4] at p1; exact p1.elim
    | some kvs =>
      rw [e4] at p1
      obtain ⟨p', n, xs, rfl, hp, kd⟩ := dt_ok q1 e4
      refine ⟨p', rfl, .inr ⟨n, xs, hp, kd.keys g1.cfg.sub, ?_⟩⟩
      refine seqE (PostE X.K ca W σ F H Q) sb (st.grow g1) p1 (fun _ _ h => PostX.mono g1 h) (fun h => h) fun y F2 H2 v2 p2 g2 q2 => ?_
      cases e : gGetDT kvs y with
      | no => rw [e] at p2; exact p2.elim
      | ex c fs => exact absurd e gGetDT_ex
      | ok o =>
        rw [e] at p2
        obtain ⟨c, k, rfl, hc, rfl⟩ := gGetDT_ok q2 e
        have kd2 := kd.mono g2.ff
        rcases kd2.at k with ⟨h1, h2⟩ | ⟨q, d, w, h1, h2, rw', dq⟩
        · rw [h2] at p2
          exact ⟨c, k, .non, rfl, g2.hh _ _ hp, kd2.keys g2.cfg.sub, same_seqT g2.cfg.sub hc, by rw [h1]; rfl, p2 F2 H2 _ (g1.trans g2) .non⟩
        · rw [h2] at p2
          exact ⟨c, k, w, rfl, g2.hh _ _ hp, kd2.keys g2.cfg.sub, same_seqT g2.cfg.sub hc, by rw [h1]; exact rw', p2 F2 H2 _ (g1.trans g2) dq⟩
theorem ve_get2 {c : Expr} (hu : X.A.units + 1 < cLine) (ha : VE ca W X a fa) (hb : VE ca W X b fb) (hc : VE ca W X c fc) (m : M2 X a "get" apos b c cpos) : VE ca W X (.Call (.Attribute a "get" apos) [b, c] [] cpos) (cGet2 fa fb fc) := by
  obtain ⟨ta, pa, sa⟩ := ha
  obtain ⟨tb, pb, sb⟩ := hb
  obtain ⟨tc, pc, sc⟩ := hc
  refine ⟨_, pe_get2 hu pa pb pc m, fun B F env σ H Q st p => ?_⟩
  unfold tGet2
  refine seqE (PostE X.K ca W σ F H Q) sa st p (fun _ _ h => h) (fun h => h) fun x F1 H1 v1 p1 g1 q1 => ?_
  cases e1 : x.dk with
  | some kvs =>
    rw [e1] at p1
    obtain ⟨p', xs, rfl, hp, kd⟩ := dk_ok q1 e1
    refine ⟨p', rfl, .inl ⟨.inl ⟨xs, .inl hp⟩, ?_⟩⟩
    refine seqE (PostE X.K ca W σ F H Q) sb (st.grow g1) p1 (fun _ _ h => PostX.mono g1 h) (fun h => h) fun y F2 H2 v2 p2 g2 q2 => ?_
    refine seqE (PostE X.K ca W σ F H Q) sc ((st.grow g1).grow g2) p2 (fun _ _ h => PostX.mono (g1.trans g2) h) (fun h => h) fun z F3 H3 v3 p3 g3 q3 => ?_
    cases ez : z.sd with
    | none => rw [ez] at p3; exact p3.elim
    | some dz =>
    rw [ez] at p3
    simp only [rsO_some, Rs.bind_ok] at p3
    have dqz := sd_ok q3 ez
    cases e : gGetDK kvs y with
    | no => rw [e] at p3; exact p3.elim
    | ex c fs => exact absurd e gGetDK_ex
    | ok o =>
      rw [e] at p3
      obtain ⟨k, rfl, rfl⟩ := gGetDK_ok q2 e
      refine ⟨_, DGet.k ((g2.trans g3).hh _ _ hp), ?_⟩
      rcases (kd.mono (g2.trans g3).ff).at k with ⟨h1, h2⟩ | ⟨w, d, h1, h2, dq⟩
      · rw [h2] at p3; rw [h1]; exact p3 F3 H3 _ ((g1.trans g2).trans g3) dqz
      · rw [h2] at p3; rw [h1]; exact p3 F3 H3 _ ((g1.trans g2).trans g3) dq
  | none =>
    rw [e1] at p1
    cases e4 : x.dt with
    | none => rw [e4] at p1; exact p1.elim
    | some kvs =>
      rw [e4] at p1
      obtain ⟨p', n, xs, rfl, hp, kd⟩ := dt_ok q1 e4
      refine ⟨p', rfl, .inr ⟨n, xs, hp, kd.keys g1.cfg.sub, ?_⟩⟩
      refine seqE (PostE X.K ca W σ F H Q) sb (st.grow g1) p1 (fun _ _ h => PostX.mono g1 h) (fun h => h) fun y F2 H2 v2 p2 g2 q2 => ?_
      refine seqE (PostE X.K ca W σ F H Q) sc ((st.grow g1).grow g2) p2 (fun _ _ h => PostX.mono (g1.trans g2) h) (fun h => h) fun z F3 H3 v3 p3 g3 q3 => ?_
      cases ez : z.sd with
      | none => rw [ez] at p3; exact p3.elim
      | some dz =>
      rw [ez] at p3
      simp only [rsO_some, Rs.bind_ok] at p3
      have dqz := sd_ok q3 ez
      cases e : gGetDT kvs y with
      | no => rw [e] at p3; exact p3.elim
      | ex c fs => exact absurd e gGetDT_ex
      | ok o =>
        rw [e] at p3
        obtain ⟨c, k, rfl, hc, rfl⟩ := gGetDT_ok (q2.grow g3) e
        have kd2 := kd.mono (g2.trans g3).ff
        have hp3 := (g2.trans g3).hh _ _ hp
        rcases kd2.at k with ⟨h1, h2⟩ | ⟨q, d, w, h1, h2, rw', dq⟩
        · rw [h2] at p3
          exact ⟨c, k, v3, rfl, hp3, kd2.keys g3.cfg.sub, same_seqT g3.cfg.sub hc, fun u ru => by rw [h1]; exact ru, p3 F3 H3 _ ((g1.trans g2).trans g3) dqz⟩
        · rw [h2] at p3
          exact ⟨c, k, w, rfl, hp3, kd2.keys g3.cfg.sub, same_seqT g3.cfg.sub hc, fun u ru => by rw [h1]; exact rw', p3 F3 H3 _ ((g1.trans g2).trans g3) dq⟩
/-! ### reckoning -/
variable (f : VEnv → Out) (env : VEnv) (i : Nat) (x y : PyData) (kvs : List (Key × PyData)) (kts : List (List Int × PyData))
theorem e_aug (g : RV → RV → Rs RV) : sAug i g fa env = match env[i]? with
  | some (some r0) => (fa env).out env fun r => (g r0.bor r).out env fun z => putS i z env
  | _ => .no := rfl
theorem e_decT {h : Decidable True} : @decide True h = true := by simp
theorem e_decF {h : Decidable False} : @decide False h = false := by simp
theorem e_cDispS (x y z w : Str) : cDispS x y z w env = .ok (.od [(.inr x, .str y), (.inr z, .str w)]) := rfl
theorem e_cDT : cDT env = .ok (.ot []) := rfl
theorem e_cDK : cDK env = .ok (.od []) := rfl
theorem e_cDisp1 : cDisp1 fa fb env = (fa env).bind fun x => (fb env).bind fun y => (rsO (x.sd.bind keyTD)).bind fun k => (rsO y.toD).bind fun d => .ok (.ot [(k, d)]) := rfl
theorem e_storeA (fi fe : VEnv → Rs RV) : sStoreA i fi fe env = match env[i]? with
  | some (some r0) => (fe env).out env fun r => (fi env).out env fun ix => (rsO r.toD).out env fun d => (stR r0 ix d).out env fun r1 => .nx (env.set i (some r1))
  | _ => .no := rfl
theorem e_stR1 (xs : List PyData) (k : Int) : stR (.ol xs) (.d (.int k)) x = (rsO (ixN xs.length k)).bind fun j => .ok (.ol (xs.set j x)) := rfl
theorem e_stR2 (r : RV) : stR (.od kvs) r x = (rsO (r.sd.bind keyD)).bind fun k => if kvs.length ≤ 1000000 then .ok (.od (dPut kvs k x)) else .no := rfl
theorem e_stR3 (r : RV) : stR (.ot kts) r x = (rsO (r.sd.bind keyTD)).bind fun k => if kts.length ≤ 1000000 then .ok (.ot (dPut kts k x)) else .no := rfl
theorem e_sd1 : (RV.d x).sd = some x := rfl
theorem e_keyD1 (k : Int) : keyD (.int k) = some (.inl k) := rfl
theorem e_keyD2 (k : Str) : keyD (.str k) = some (.inr k) := rfl
theorem e_keyTD (xs : List PyData) : keyTD (.tuple xs) = intsD xs := rfl
theorem e_intsD (ns : List Int) : intsD (ns.map .int) = some ns := intsD_map ns
theorem e_intsD0 : intsD [] = some [] := rfl
theorem e_borT : (RV.ot kts).bor = .bt kts := rfl
theorem e_borT2 : (RV.bt kts).bor = .bt kts := rfl
theorem e_borK : (RV.od kvs).bor = .bd kvs := rfl
theorem e_borK2 : (RV.bd kvs).bor = .bd kvs := rfl
theorem e_argT : (RV.ot kts).arg = .bt kts := rfl
theorem e_argT2 : (RV.bt kts).arg = .bt kts := rfl
theorem e_argK : (RV.od kvs).arg = .bd kvs := rfl
theorem e_argK2 : (RV.bd kvs).arg = .bd kvs := rfl
theorem e_nbT : (RV.ot kts).nb = .ok (.ot kts) := rfl
theorem e_nbK : (RV.od kvs).nb = .ok (.od kvs) := rfl
theorem e_putT : putS i (.ot kts) env = if i < env.length then .nx (env.set i (some (.ot kts))) else .no := rfl
theorem e_putK : putS i (.od kvs) env = if i < env.length then .nx (env.set i (some (.od kvs))) else .no := rfl
theorem e_gAt1 (b : RV) : gAt (.bt kts) b = gGetDT kts b := rfl
theorem e_gAt2 (b : RV) : gAt (.bd kvs) b = gGetDK kvs b := rfl
theorem e_gAt3 (b : RV) : gAt (.od kvs) b = gGetDK kvs b := rfl
theorem e_gAt4 (b : RV) : gAt (.ot kts) b = gGetDT kts b := rfl
theorem e_gGetDK (b : RV) : gGetDK kvs b = (rsO (b.sd.bind keyD)).bind fun k => .ok (dGet kvs k) := rfl
theorem e_gGetDT (b : RV) : gGetDT kts b = (rsO (b.sd.bind keyTD)).bind fun k => .ok (dGet kts k) := rfl
theorem e_gIxD (a b : RV) : gIxD a b = (gAt a b).bind fun o => (rsO o).bind fun d => .ok (.d d) := rfl
theorem e_gInD (a b : RV) : gInD a b = (gAt b a).bind fun o => okB o.isSome := rfl
theorem e_gNotInD (a b : RV) : gNotInD a b = (gAt b a).bind fun o => okB (!o.isSome) := rfl
theorem e_cGet1 : cGet1 fa fb env = (fa env).bind fun x => match x.dk with
  | some kvs => (fb env).bind fun y => (gGetDK kvs y).bind fun o => .ok (.d (o.getD .none))
  | none => (match x.dt with
    | some kvs => (fb env).bind fun y => (gGetDT kvs y).bind fun o => .ok (.d (o.getD .none))
    | none => .no) := rfl
theorem e_cGet2 : cGet2 fa fb fc env = (fa env).bind fun x => match x.dk with
  | some kvs => (fb env).bind fun y => (fc env).bind fun z => (rsO z.sd).bind fun d => (gGetDK kvs y).bind fun o => .ok (.d (o.getD d))
  | none => (match x.dt with
    | some kvs => (fb env).bind fun y => (fc env).bind fun z => (rsO z.sd).bind fun d => (gGetDT kvs y).bind fun o => .ok (.d (o.getD d))
    | none => .no) := rfl
theorem e_dk1 : (RV.bd kvs).dk = some kvs := rfl
theorem e_dk2 : (RV.od kvs).dk = some kvs := rfl
theorem e_dk3 : (RV.bt kts).dk = none := rfl
theorem e_dk4 : (RV.ot kts).dk = none := rfl
theorem e_dt1 : (RV.bt kts).dt = some kts := rfl
theorem e_dt2 : (RV.ot kts).dt = some kts := rfl
theorem e_del (fi : VEnv → Rs RV) : sDel i fi env = match env[i]? with
  | some (some (.od kvs)) => (fi env).out env fun ix => (rsO (ix.sd.bind keyD)).out env fun k => if (dGet kvs k).isSome = true then .nx (env.set i (some (.od (dDrop kvs k)))) else .no
  | _ => .no := rfl
end
end VL

namespace VL
open PySem PySem.Spec PyProof.Rows L2
/-! ## a dict whose keys are tuples of ints: its keys walked, the greatest of its values -/
section
variable {X : Cx} {pins : List (Addr × Obj)} {σ : L2.St} {H : Hp} {s : Shared} {d : Addr} {n : Nat} {xs : List (List Int × Addr × Value)}
theorem dto_raw (I : Inv X pins σ H s) (h : H d = some (DTO d (n, xs))) : (d == sysModules) = false ∧ ∃ (o : Obj) (es : Array DictEntry), s.heap.get? d = some o ∧ o.ExactDict ∧ o.data = .dict es n ∧ es.size = xs.length ∧ ∀ (i : Nat) (e : List Int × Addr × Value), xs[i]? = some e → ∃ en : DictEntry, es[i]? = some en ∧ en.key = .ref e.2.1 ∧ en.val = e.2.2 := by
  obtain ⟨⟨o, es, h1, h2, h3, h4, h5, h6, h7⟩, _⟩ := (show ObjOk X.prog X.w H s.heap d (.ext (DTOk d (n, xs))) from I.hok d _ h)
  refine ⟨h7, o, es, h1, h2, h3, ?_, fun i e he => ?_⟩
  · have := congrArg List.length h4
    rw [List.length_map, Array.length_toList] at this
    exact this
  · refine ⟨⟨hashT e.1, .ref e.2.1, e.2.2⟩, ?_, rfl, rfl⟩
    have hx : xs[i]? = some e := he
    rw [← Array.getElem?_toList, h4]
    show ((xs.map _)[i]? : Option DictEntry) = _
    rw [List.getElem?_map, hx]
    rfl
end
def ItT (d : Addr) (n : Nat) (xs : List (List Int × Addr × Value)) : It :=
  ⟨fun i H => H d = some (DTO d (n, xs)) ∧ i < xs.length, fun i H x H' => H' = H ∧ ∃ e, xs[i]? = some e ∧ x = .ref e.2.1, fun i H => H d = some (DTO d (n, xs)) ∧ xs.length ≤ i⟩
theorem turn_dto {P : Program} {w : World} {K : PySem.W.Frag} {tg : Expr} {d : Addr} {n : Nat} {xs : List (List Int × Addr × Value)} (it : Addr) : Turn P w K tg (ItT d n xs) [it] it (fun i h => h.IsKeyIter it d i xs.length n) where
  mem := List.mem_singleton.mpr rfl
  obj := fun i h hit b hb => by
    obtain rfl : b = it := List.mem_singleton.mp hb
    obtain ⟨ob, g1, g2, g3⟩ := hit
    exact ⟨ob, g1, fun v z => nomatch (g3.symm.trans z)⟩
  keep := fun i h h' hit same => hit.at fun ob g => same it (List.mem_singleton.mpr rfl) ob g
  item := by
    intro X hP hw hK hc i pins s σ H E I ff hit hgo
    subst hP hw hK
    obtain ⟨hd, hi⟩ := hgo
    obtain ⟨a0, a1, a2, a3, a4, a5⟩ := ff it (List.mem_singleton.mpr rfl)
    obtain ⟨_, o, es, g1, g2, g3, g4, g5⟩ := dto_raw I hd
    obtain ⟨en, g6, g7, _⟩ := g5 i xs[i] (List.getElem?_eq_getElem hi)
    refine next_key_item hit g1 g3 g4 g6 fun h' hit' same => ?_
    have I1 : Inv X pins σ H { s with heap := h' } := I.turned (t' := s.toks) (fun b ob nb g => (same.2 b nb).trans g) a0 a1 a3 a4 a5
    obtain ⟨oi, q1, q2, q3⟩ := id hit'
    exact ⟨en.key, rfl, go_of (s := { s with heap := h' }) q1 q2 q3 (by decide) ⟨.ref xs[i].2.1, H, I1, g7, ⟨rfl, xs[i], List.getElem?_eq_getElem hi, rfl⟩, hit', fun b hb => (ff b hb).1⟩⟩
  done := by
    intro X hP hw hK hc i pins s σ H E I ff hit hgo
    subst hP hw hK
    obtain ⟨hd, hi⟩ := hgo
    obtain ⟨a0, a1, a2, a3, a4, a5⟩ := ff it (List.mem_singleton.mpr rfl)
    obtain ⟨_, o, es, g1, g2, g3, g4, g5⟩ := dto_raw I hd
    exact next_key_end (I.ok.hd hc) hit g1 g3 g4 hi fun h' eb => ⟨rfl, I.turned (t' := s.toks) (fun b ob nb g => eb b ob nb g) a0 a1 a3 a4 a5⟩
  self := fun A i s Q E hit k => wpAny_pyIter_keyiter hit k
def iKeysO (td : TE) : TI := fun σ H R => td σ H fun x H1 => ∃ d n xs, x = .ref d ∧ H1 d = some (DTO d (n, xs)) ∧ R (ItT d n xs) H1
theorem pi_keysO {X : Cx} {tg e : Expr} {td : TE} (he : PE X e td) : PI X tg e (iKeysO td) := by
  refine ⟨fun pins s σ H R I h => thn (he.run pins s σ H _ I h) fun u s1 ⟨x, H1, I1, rx, d, n, xs, ex, hd, q⟩ => ?_⟩
  subst ex
  obtain rfl : u = Value.ref d := rx
  obtain ⟨g0, o, es, g1, g2, g3, g4, g5⟩ := dto_raw I1 hd
  refine iter_keys g0 g1 g2 g3 (pi_one (tk := s1.toks) I1 _ (turn_dto _) ⟨_, Heap.get?_push_size _ rfl, rfl, ?_⟩ q)
  rw [g4]
  rfl
theorem jw_dto {G : Hp} {d : Addr} {n : Nat} {xs : List (List Int × Addr × Value)} (h : G d = some (DTO d (n, xs))) : JWalk (ItT d n xs) G (xs.map fun e => V.ref e.2.1) where
  go := fun i H s hi => ⟨s _ _ h, by simpa using hi⟩
  yld := fun i H x H' s y hi => by
    obtain ⟨e1, e, e2, e3⟩ := y
    exact ⟨e1, by rw [List.getElem?_map, e2, e3]; rfl⟩
  stop := fun H s => ⟨s _ _ h, by simp⟩
theorem ktl_keys {K : PySem.W.Frag} {F : Hp} : ∀ {xs : List (List Int × Addr × Value)} {kvs : List (List Int × PyData)}, KTl K F xs kvs → DqA K F (xs.map fun e => V.ref e.2.1) (kvs.map fun e => .tuple (e.1.map .int))
  | _, _, .nil => .nil
  | _, _, .cons h r => .cons (.tup (by have := h.2.1; rw [h.1] at this; exact this) (DqA.of_ints _)) (ktl_keys r)
/-- the keys of a dict -/
def iD (fe : VEnv → Rs RV) : VEnv → Rs (List PyData) := fun env => (fe env).bind fun r => (rsO r.dt).bind fun kvs => .ok (kvs.map fun e => .tuple (e.1.map .int))
theorem e_iD (fe : VEnv → Rs RV) (env : VEnv) : iD fe env = (fe env).bind fun r => (rsO r.dt).bind fun kvs => .ok (kvs.map fun e => .tuple (e.1.map .int)) := rfl
section
variable {ca : Nat → Addr} {W : WX} {X : Cx} {e : Expr} {fa : VEnv → Rs RV}
theorem vj_dict {tg : Expr} (h : VE ca W X e fa) : VJ ca W X tg e (iD fa) := by
  obtain ⟨t, p, s⟩ := h
  refine ⟨_, pi_keysO p, fun B F env σ H R st q => ?_⟩
  show t σ H fun x H1 => ∃ d n xs, x = .ref d ∧ H1 d = some (DTO d (n, xs)) ∧ R (ItT d n xs) H1
  refine seqE (PostJ X.K ca W σ F H R) s st q (fun _ _ h => h) (fun h => h) fun r F1 H1 v p1 g1 q1 => ?_
  cases e1 : r.dt with
  | none => rw [e1] at p1; exact p1.elim
  | some kvs =>
    rw [e1] at p1
    simp only [rsO_some, Rs.bind_ok] at p1
    obtain ⟨d, n, xs, rfl, hd, kq⟩ := dt_ok q1 e1
    exact ⟨d, n, xs, rfl, hd, p1 _ F1 H1 _ g1 (ktl_keys kq) (jw_dto hd)⟩
end
/-! ### max(d.values()) -/
def tMaxO (td : TE) : TE := fun σ H Q => td σ H fun x H1 => ∃ d n xs is, x = .ref d ∧ H1 d = some (DTO d (n, xs)) ∧ Paired (fun (e : List Int × Addr × Value) (j : Int) => ∃ t, e.2.2 = .int j t) xs is ∧ is ≠ [] ∧ ∀ m, m ∈ is → (∀ j ∈ is, j ≤ m) → Q (.int m) H1
theorem paired_at {α β : Type} {R : α → β → Prop} {xs : List α} {ys : List β} (h : Paired R xs ys) : ∀ {i : Nat} {x : α}, xs[i]? = some x → ∃ y, ys[i]? = some y ∧ R x y := by
  induction h with
  | nil => intro i x e; simp at e
  | @cons a b as bs h1 _ ih =>
    intro i x e
    cases i with
    | zero =>
      obtain rfl : a = x := by simpa using e
      exact ⟨b, rfl, h1⟩
    | succ i => exact ih (by simpa using e)
theorem pe_maxO {X : Cx} {oe : Expr} {p pos apos mpos : Pos} {td : TE} (hc : X.calm = true) (hg : Gl X "max") (hm : X.mg "max" = none) (hd : PE X oe td) (hbase : attributeBase oe "values" X.env (eval oe X.env) = eval oe X.env := by rfl) (hline : (apos.endLine == mpos.line) = true := by rfl)
    (hst : starEach [Expr.Call (.Attribute oe "values" apos) [] [] mpos] X.env = [(false, eval (Expr.Call (.Attribute oe "values" apos) [] [] mpos) X.env)] := by rfl) :
    PE X (.Call (.Name "max" p) [.Call (.Attribute oe "values" apos) [] [] mpos] [] pos) (tMaxO td) := by
  refine ⟨fun pins s σ H Q I h => wpAny_Call_Name_kw (ld_blt I hg hm (u := .builtin "max") (by first | rfl | decide +kernel) ?_ (by first | decide +kernel | decide) (by first | decide +kernel | decide))⟩
  rw [hst]
  refine PySem.callWith_builtin1 (wpAny_Call_method0_late hbase hline (thn (hd.run pins s σ H _ I h) fun v s1 ⟨x, H1, I1, r1, d, n, xs, is, ex, ha, hv, hne, q⟩ => ?_))
  subst ex
  obtain rfl : v = Value.ref d := r1
  obtain ⟨g0, ob, es, g1, g2, g3, g4, g5⟩ := dto_raw I1 ha
  have hl : xs.length = is.length := hv.length
  refine ⟨"dict", "dict.values", PySem.F.plainAttrs_dict, PySem.F.slot_dict_values, PySem.F.type_dict_values, ⟨ob, g1, g2.1⟩, fun b e => ?_, Calls.callWith_builtin rfl (PySem.evalArgs_none ?_)⟩
  · cases e
    exact ⟨ob, g1, g2.2.1⟩
  refine call_meetsIn PySem.F.slot_dict_values ⟨ob, g1, g2.1⟩ PySem.F.entry_dict_values (PySem.F.args_dict_values_1 _) (PySem.meets_dict_values_raw d g0) ⟨⟨es, n, ob, g1, g2, g3⟩, ?_⟩
  have hlt : d < s1.heap.objs.size := Heap.lt_size g1
  have kp : ∀ b u, s1.heap.get? b = some u → (s1.heap.push { cls := .type "dict_values", data := .fields #[.ref d] }).get? b = some u := fun b u e => Heap.get?_push_of_some _ e
  have sz : (s1.heap.push { cls := .type "dict_values", data := .fields #[.ref d] }).objs.size = s1.heap.objs.size + 1 := Heap.size_push _ _
  have val : ∀ (i : Nat) (e : DictEntry), es[i]? = some e → ∃ t, e.val = .int (is.getD i 0) t := fun i e he => by
    have hi : i < es.size := (Array.getElem?_eq_some_iff.mp he).1
    have hix : i < xs.length := by omega
    obtain ⟨en, z1, _, z2⟩ := g5 i xs[i] (List.getElem?_eq_getElem hix)
    obtain rfl : en = e := Option.some.inj (z1.symm.trans he)
    obtain ⟨j, z3, t, z4⟩ := paired_at hv (List.getElem?_eq_getElem hix)
    exact ⟨t, by rw [z2, z4, List.getD_eq_getElem?_getD, z3]; rfl⟩
  have npos : 0 < es.size := by
    have := List.length_pos_iff.mpr hne
    omega
  refine call_max_walk (DSub.iter_vals (v := s1.heap.objs.size) (a := d) (Heap.get?_push_size _ rfl) (kp _ _ g1) g3 ?_)
  refine ⟨_, _, _, _, _, _, _, rfl, DSub.walksVal (A := X.A.in1) (a := d) (ob := ob) (P := fun i v => ∃ t, v = .int (is.getD i 0) t) (I.ok.hd hc) (I := (s1.heap.push { cls := .type "dict_values", data := .fields #[.ref d] }).objs.size) (by rw [sz]; exact Nat.ne_of_lt (Nat.lt_succ_of_lt hlt)) g3 val,
    ⟨Heap.get?_push_size _ rfl, Heap.get?_push_of_some _ (kp _ _ g1)⟩, fun b hb => ?_, npos, CmpOf.ints_gt (fun i => is.getD i 0) (fun i v z => z), fun v h' tk hP hk => ?_⟩
  · show b < ((s1.heap.push _).push _).objs.size
    rw [Heap.size_push, sz]
    rw [sz] at hb
    rcases List.mem_cons.mp hb with e | e
    · rw [e]
      exact Nat.lt_succ_self _
    · rw [List.mem_singleton.mp e]
      exact Nat.lt_succ_of_lt (Nat.lt_succ_of_lt hlt)
  · obtain ⟨t, rfl⟩ := hP
    obtain ⟨b1, b2⟩ := argBest_gt (fun i => is.getD i 0) (es.size - 1)
    refine ⟨.int _, H1, I1.kept (t' := tk) fun b u e => hk b u (fun z => ?_) (Heap.get?_push_of_some _ (kp b u e)), ⟨t, rfl⟩, q _ ?_ fun j hj => ?_⟩
    · have z1 := List.mem_singleton.mp z
      have z2 := Heap.lt_size e
      rw [sz] at z1
      rw [z1] at z2
      exact absurd z2 (Nat.not_lt.mpr (Nat.le_succ _))
    · have m1 : argBest (fun i j => decide (is.getD i 0 > is.getD j 0)) (es.size - 1) ≤ es.size - 1 := b1
      have hb : argBest (fun i j => decide (is.getD i 0 > is.getD j 0)) (es.size - 1) < is.length := by omega
      rw [List.getD_eq_getElem?_getD, List.getElem?_eq_getElem hb]
      exact List.getElem_mem hb
    · obtain ⟨i, hi, rfl⟩ := List.getElem_of_mem hj
      have e2 : is.getD i 0 = is[i] := by rw [List.getD_eq_getElem?_getD, List.getElem?_eq_getElem hi]; rfl
      rw [← e2]
      exact b2 i (by omega)
/-- the ints that a dict holds -/
def valsI : List (List Int × PyData) → Option (List Int)
  | [] => some []
  | (_, .int j) :: r => (valsI r).map (j :: ·)
  | _ => none
theorem vals_ints {K : PySem.W.Frag} {F : Hp} : ∀ {xs : List (List Int × Addr × Value)} {kvs : List (List Int × PyData)} {is : List Int}, KTl K F xs kvs → valsI kvs = some is → Paired (fun (e : List Int × Addr × Value) (j : Int) => ∃ t, e.2.2 = .int j t) xs is
  | _, [], is, h, e => by cases h; cases e; exact .nil
  | _, (k, v) :: r, is, h, e => by
    cases h with
    | cons h1 h2 =>
      cases v with
      | int j =>
        unfold valsI at e
        obtain ⟨is', e1, e2⟩ := Option.map_eq_some_iff.mp e
        subst e2
        obtain ⟨w, r1, r2⟩ := h1.2.2
        cases r2
        exact .cons r1 (vals_ints h2 e1)
      | _ => cases e
def cMaxV (fa : VEnv → Rs RV) : VEnv → Rs RV := fun env => (fa env).bind fun r => (rsO r.dt).bind fun kvs => (rsO (valsI kvs)).bind fun is => (rsO (maxL is)).bind okI
theorem e_maxV (fa : VEnv → Rs RV) (env : VEnv) : cMaxV fa env = (fa env).bind fun r => (rsO r.dt).bind fun kvs => (rsO (valsI kvs)).bind fun is => (rsO (maxL is)).bind okI := rfl
theorem maxL_of {is : List Int} {m : Int} (h : m ∈ is) (k : ∀ j ∈ is, j ≤ m) : maxL is = some m := by
  cases is with
  | nil => cases h
  | cons x xs =>
    have key : ∀ (xs : List Int) (a : Int), (∀ j ∈ xs, j ≤ m) → a ≤ m → (a = m ∨ m ∈ xs) → xs.foldl (fun a b => if b > a then b else a) a = m := by
      intro xs
      induction xs with
      | nil =>
        intro a _ _ h
        rcases h with h | h
        · exact h
        · cases h
      | cons y ys ih =>
        intro a hx ha h
        rw [List.foldl_cons]
        have hy := hx y List.mem_cons_self
        refine ih _ (fun j hj => hx j (List.mem_cons_of_mem _ hj)) (by split <;> omega) ?_
        by_cases c : a = m
        · left
          split <;> omega
        · rcases h with h | h
          · exact absurd h c
          · rcases List.mem_cons.mp h with e | e
            · left
              split <;> omega
            · exact .inr e
    show some (xs.foldl _ x) = some m
    refine congrArg some (key xs x (fun j hj => k j (List.mem_cons_of_mem _ hj)) (k x List.mem_cons_self) ?_)
    rcases List.mem_cons.mp h with e | e
    · exact .inl e.symm
    · exact .inr e
theorem ve_maxV {ca : Nat → Addr} {W : WX} {X : Cx} {oe : Expr} {fa : VEnv → Rs RV} {p pos apos mpos : Pos} (hc : X.calm = true) (hg : Gl X "max") (hm : X.mg "max" = none) (h : VE ca W X oe fa) (hbase : attributeBase oe "values" X.env (eval oe X.env) = eval oe X.env := by rfl) (hline : (apos.endLine == mpos.line) = true := by rfl)
    (hst : starEach [Expr.Call (.Attribute oe "values" apos) [] [] mpos] X.env = [(false, eval (Expr.Call (.Attribute oe "values" apos) [] [] mpos) X.env)] := by rfl) :
    VE ca W X (.Call (.Name "max" p) [.Call (.Attribute oe "values" apos) [] [] mpos] [] pos) (cMaxV fa) := by
  obtain ⟨t, pe, s⟩ := h
  refine ⟨_, pe_maxO hc hg hm pe hbase hline hst, fun B F env σ H Q st q => ?_⟩
  show t σ H fun x H1 => ∃ d n xs is, x = .ref d ∧ H1 d = some (DTO d (n, xs)) ∧ Paired (fun (e : List Int × Addr × Value) (j : Int) => ∃ t, e.2.2 = .int j t) xs is ∧ is ≠ [] ∧ ∀ m, m ∈ is → (∀ j ∈ is, j ≤ m) → Q (.int m) H1
  refine seqE (PostE X.K ca W σ F H Q) s st q (fun _ _ h => h) (fun h => h) fun r F1 H1 v p1 g1 q1 => ?_
  cases e1 : r.dt with
  | none => rw [e1] at p1; exact p1.elim
  | some kvs =>
    rw [e1] at p1
    simp only [rsO_some, Rs.bind_ok] at p1
    cases e2 : valsI kvs with
    | none => rw [e2] at p1; exact p1.elim
    | some is =>
      rw [e2] at p1
      simp only [rsO_some, Rs.bind_ok] at p1
      obtain ⟨d, n, xs, rfl, hd, kq⟩ := dt_ok q1 e1
      refine ⟨d, n, xs, is, rfl, hd, vals_ints kq e2, fun z => ?_, fun m h1 h2 => ?_⟩
      · subst z
        exact p1.elim
      · rw [maxL_of h1 h2] at p1
        exact p1 F1 H1 _ g1 (.int _)
end VL

namespace VL
open PySem PySem.Spec PyProof.Rows L2
/-! ## a list that a def hands back is new where nothing handed to it holds a list -/
mutual
/-- data without lists -/
def noL : PyData → Bool
  | .list _ => false
  | .dict _ => false
  | .tuple ds => noLs ds
  | _ => true
def noLs : List PyData → Bool
  | [] => true
  | d :: ds => noL d && noLs ds
end
/-- the frozen part without its lists -/
noncomputable def noLst (F : Hp) : Hp := fun a => match F a with
  | some (.lst _) => none
  | o => o
theorem noLst_sub (F : Hp) : Same (noLst F) F := fun a o h => by
  unfold noLst at h
  split at h
  · cases h
  · exact h
theorem noLst_at {F : Hp} {a : Addr} {o : HO} (h : F a = some o) (n : ∀ xs, o ≠ .lst xs) : noLst F a = some o := by
  unfold noLst
  rw [h]
  cases o with
  | lst xs => exact absurd rfl (n xs)
  | _ => rfl
theorem noLst_cfg {F H : Hp} (c : Cfg F H) : Cfg (noLst F) H := ⟨fun a o h => c.sub a o (noLst_sub F a o h), fun a xs h => noLst_at (c.tup a xs h) fun _ z => by cases z⟩
/-- F' has all of F that is no list -/
def Like (F F' : Hp) : Prop := ∀ a o, F a = some o → (∀ xs, o ≠ .lst xs) → F' a = some o
theorem like_seqT {K : PySem.W.Frag} {F F' : Hp} {a : Addr} {xs : List V} (e : Like F F') (h : SqT K F a xs) : SqT K F' a xs := by
  rcases h with (h | ⟨o, h⟩) | h
  · exact .inl (.inl (e _ _ h fun _ z => by cases z))
  · exact .inl (.inr ⟨o, e _ _ h fun _ z => by cases z⟩)
  · exact .inr h
mutual
theorem Dq.like {K : PySem.W.Frag} {F F' : Hp} (e : Like F F') : ∀ (d : PyData) (v : V), noL d = true → Dq K F v d → Dq K F' v d
  | .none, _, _, h => by cases h; exact .non
  | .bool b, _, _, h => by cases h; exact .bl b
  | .int i, _, _, h => by cases h; exact .int i
  | .str x, _, _, h => by cases h; exact .str x
  | .list ds, _, n, h => by cases n
  | .tuple ds, _, n, h => by
    cases h with
    | tup h1 h2 => exact .tup (like_seqT e h1) (DqA.like e ds _ (by unfold noL at n; exact n) h2)
  | .dict _, _, _, h => by cases h
theorem DqA.like {K : PySem.W.Frag} {F F' : Hp} (e : Like F F') : ∀ (ds : List PyData) (vs : List V), noLs ds = true → DqA K F vs ds → DqA K F' vs ds
  | [], _, _, h => by cases h; exact .nil
  | d :: ds, _, n, h => by
    cases h with
    | cons h1 h2 =>
      unfold noLs at n
      rw [Bool.and_eq_true] at n
      exact .cons (Dq.like e d _ n.1 h1) (DqA.like e ds _ n.2 h2)
end
def RV.plain : RV → Bool
  | .d x => noL x
  | _ => false
/-- a list handed back becomes one of its own -/
def RV.thaw : RV → RV
  | .d (.list ds) => if noLs ds = true then .ol ds else .d (.list ds)
  | r => r
def thawR : Rs RV → Rs RV
  | .ok r => .ok r.thaw
  | m => m
theorem e_thaw1 (r : RV) : thawR (.ok r) = .ok r.thaw := rfl
theorem paired_like {K : PySem.W.Frag} {H0 H1 F F' H : Hp} (e : Like F F') : ∀ {vs : List V} {rs : List RV}, rs.all RV.plain = true → Paired (fun v r => RVok K H0 F H v r) vs rs → Paired (fun v r => RVok K H1 F' H v r) vs rs
  | _, _, _, .nil => .nil
  | _, r :: _, n, .cons h1 h2 => by
    rw [List.all_cons, Bool.and_eq_true] at n
    refine .cons ?_ (paired_like e n.2 h2)
    cases r with
    | d x => exact Dq.like e x _ n.1 h1
    | _ => cases n.1
/-- what a def that saw no frozen list hands back, over all that is frozen -/
theorem thaw_both {F H G' H' : Hp} (c : Cfg F H) (g : Grow (noLst F) H G' H') (D : Addr → Prop) (hD : ∀ a, D a → H a = none ∧ ∃ xs, G' a = some (.lst xs)) :
    ∃ F' : Hp, Grow F H F' H' ∧ (∀ a o, G' a = some o → ¬ D a → F' a = some o) ∧ (∀ a, D a → F' a = none) ∧ ∀ a o, F' a = some o → F a = some o ∨ G' a = some o := by
  classical
  obtain ⟨F', e1, e2, e3⟩ : ∃ F' : Hp, (∀ a, D a → F' a = none) ∧ (∀ a o, ¬ D a → F a = some o → F' a = some o) ∧ ∀ a, ¬ D a → F a = none → F' a = G' a := by
    refine ⟨fun a => if D a then none else match F a with | some o => some o | none => G' a, fun a h => if_pos h, fun a o n h => ?_, fun a n h => ?_⟩
    · show (if D a then none else _) = _
      rw [if_neg n, h]
    · show (if D a then none else _) = _
      rw [if_neg n, h]
  have inv : ∀ a o, F' a = some o → F a = some o ∨ G' a = some o := fun a o h => by
    by_cases n : D a
    · rw [e1 a n] at h; cases h
    · cases e : F a with
      | none => rw [e3 a n e] at h; exact .inr h
      | some o' => rw [e2 a o' n e] at h; exact .inl h
  have fresh : ∀ a o, F a = some o → ¬ D a := fun a o h z => by
    have := (hD a z).1
    rw [c.sub _ _ h] at this
    cases this
  have low : ∀ a o, G' a = some o → ¬ D a → F' a = some o := fun a o h n => by
    cases e : F a with
    | none => rw [e3 a n e]; exact h
    | some o' =>
      rw [e2 a o' n e]
      have h1 := g.hh _ _ (c.sub _ _ e)
      rw [g.cfg.sub _ _ h] at h1
      exact h1.symm
  refine ⟨F', ⟨⟨fun a o h => ?_, fun a xs h => ?_⟩, fun a o h => e2 a o (fresh a o h) h, g.hh, fun a o h => ?_⟩, low, e1, inv⟩
  · rcases inv a o h with z | z
    · exact g.hh _ _ (c.sub _ _ z)
    · exact g.cfg.sub _ _ z
  · have h1 := g.cfg.tup a xs h
    refine low a _ h1 fun z => ?_
    obtain ⟨_, ys, e⟩ := hD a z
    rw [h1] at e
    cases e
  · rcases inv a o h with z | z
    · exact .inl z
    · rcases g.nw a o z with z | z
      · exact .inl (noLst_sub F _ _ z)
      · exact .inr z
theorem thaw_ok {K : PySem.W.Frag} {F H G' H' : Hp} {v : V} {r : RV} (c : Cfg F H) (g : Grow (noLst F) H G' H') (h : RVok K H G' H' v r) : ∃ F', Grow F H F' H' ∧ RVok K H F' H' v r.thaw := by
  have whole : ∃ F', Grow F H F' H' ∧ RVok K H F' H' v r := by
    obtain ⟨F', g1, g2, _, g4⟩ := thaw_both c g (fun _ => False) (fun _ z => z.elim)
    have sm : Same G' F' := fun a o h => g2 a o h (fun z => z)
    have still : ∀ p, H p = none → G' p = none → F' p = none := fun p n0 f => by
      cases z : F' p with
      | none => rfl
      | some o =>
        rcases g4 p o z with q1 | q1
        · have := c.sub _ _ q1
          rw [n0] at this
          cases this
        · rw [f] at q1
          cases q1
    refine ⟨F', g1, ?_⟩
    cases r with
    | ol xs => obtain ⟨p, vs, e, n0, f, hp, q⟩ := h; exact ⟨p, vs, e, n0, still p n0 f, hp, DqA.mono sm _ _ q⟩
    | od xs => obtain ⟨p, vs, e, n0, f, hp, q⟩ := h; exact ⟨p, vs, e, n0, still p n0 f, hp, q.mono sm⟩
    | ot xs => obtain ⟨p, vs, e, n0, f, hp, q⟩ := h; exact ⟨p, vs, e, n0, still p n0 f, hp, q.mono sm⟩
    | d x => exact Dq.mono sm x v h
    | bl xs => obtain ⟨p, vs, e, hp, q⟩ := h; exact ⟨p, vs, e, hp, DqA.mono sm _ _ q⟩
    | bd xs => obtain ⟨p, vs, e, hp, q⟩ := h; exact ⟨p, vs, e, hp, q.mono sm⟩
    | bt xs => obtain ⟨p, vs, e, hp, q⟩ := h; exact ⟨p, vs, e, hp, q.mono sm⟩
    | sc ns => obtain ⟨a, e, q⟩ := h; exact ⟨a, e, sm.seq q⟩
    | xo a dd c fs => obtain ⟨e, xs, hp, q⟩ := h; exact ⟨e, xs, hp, q.mono sm⟩
  cases r with
  | d x =>
    cases x with
    | list ds =>
      show ∃ F', Grow F H F' H' ∧ RVok K H F' H' v (if noLs ds = true then .ol ds else .d (.list ds))
      by_cases n : noLs ds = true
      · rw [if_pos n]
        have h' : Dq K G' v (.list ds) := h
        cases h' with
        | @lst a xs _ h1 h2 =>
          have n0 : H a = none := by
            rcases g.nw a _ h1 with z | z
            · unfold noLst at z
              split at z
              · cases z
              · rename_i q
                exact absurd z (q xs)
            · exact z
          obtain ⟨F', g1, g2, g3, _⟩ := thaw_both c g (fun b => b = a) (fun b e => by subst e; exact ⟨n0, xs, h1⟩)
          refine ⟨F', g1, a, xs, rfl, n0, g3 a rfl, g.cfg.sub _ _ h1, DqA.like (fun b o e nl => g2 b o e fun z => ?_) ds xs n h2⟩
          subst z
          rw [h1] at e
          cases e
          exact nl _ rfl
      · rw [if_neg n]
        exact whole
    | _ => exact whole
  | _ => exact whole
section
variable {ca : Nat → Addr} {W : WX} {X : Cx} {e : Expr} {es : List Expr} {pos : Pos}
/-- f(e, ..): what is handed over is data without lists, and a list that comes back is its caller's own -/
theorem ve_callT {fA : Addr} {fd : FuncData} {ps : List Str} {x : Str} {p : Pos} {k n m : Nat} {dds : List PyData} {G : List RV → Rs RV} {f : VEnv → Rs (List RV)} (Fo : FnOk X.prog X.w X.K X.mg X.base (L2.CX X.prog X.w) k fA fd ps (spV X.K ca n G)) (hr : Room k X.A) (hg : Gl X x) (hm : X.mg x = some (.ref fA)) (hk : PySem.W.keepIn X.K (.ref fA) = true) (hb : DBn X.K fd ps dds) (tk : Takes X W)
    (ha : VA ca W X (e :: es) f) (hn : m + dds.length = n := by rfl) (hdb : (x == ("__debug__" : Str)) = false := by decide) (he : starEach (e :: es) X.env = (false, eval e X.env) :: starEach es X.env := by rfl) (hpl : (backTo pos (starEach es X.env)).any (·.1) = false := by rfl) :
    VE ca W X (.Call (.Name x p) (e :: es) [] pos) (cA (fun rs => if rs.length = m ∧ rs.all RV.plain = true then thawR (G (rs.map RV.arg ++ dds.map RV.d)) else .no) f) := by
  obtain ⟨t, pa, sa⟩ := ha
  obtain ⟨dvs, ⟨ds, hd, hb⟩, hS⟩ := hb
  refine ⟨_, pe_callSD Fo hr hg hm hk hb hd (fun σ => passAt tk σ) pa hdb he hpl, fun B F env σ H Q st q => ?_⟩
  show t σ H fun vs H1 => spV X.K ca n G (vs ++ dvs) H1 Q (WE W σ)
  refine seqA (PostE X.K ca W σ F H Q) sa st q (fun _ _ h => h) (fun h => h) fun rs F1 H1 vs p1 g1 q1 => ?_
  split at p1
  · rename_i hl
    have hp : rs.map RV.arg = rs := by
      have : ∀ rs : List RV, rs.all RV.plain = true → rs.map RV.arg = rs := by
        intro rs
        induction rs with
        | nil => intro _; rfl
        | cons r rs ih =>
          intro h
          rw [List.all_cons, Bool.and_eq_true] at h
          rw [List.map_cons, ih h.2]
          cases r with
          | d x => rfl
          | _ => cases h.1
      exact this rs hl.2
    have q2 : Paired (fun v r => RVok X.K H1 (noLst F1) H1 v r) vs rs := paired_like (fun a o h n => noLst_at h n) hl.2 q1
    have q3 : Paired (fun v r => RVok X.K H1 (noLst F1) H1 v r) (vs ++ dvs) (rs.map RV.arg ++ dds.map RV.d) := by
      rw [hp]
      exact paired_app q2 (paired_D (hS _))
    refine ⟨by rw [Paired.length q3, List.length_append, List.length_map, List.length_map, hl.1, hn], noLst F1, _, noLst_cfg g1.cfg, q3, ?_⟩
    cases e1 : G (rs.map RV.arg ++ dds.map RV.d) with
    | ok r =>
      rw [e1] at p1
      intro G' H' v gg rr
      obtain ⟨F', g2, r2⟩ := thaw_ok g1.cfg gg rr
      exact p1 F' H' v (g1.trans g2) (r2.older g1.hh)
    | ex c fs =>
      rw [e1] at p1
      intro G' H' cls dx gg x
      obtain ⟨F', g2, g3, _⟩ := thaw_both g1.cfg gg (fun _ => False) (fun _ z => z.elim)
      obtain ⟨y1, dd, xs, y2, y3, y4⟩ := x
      exact p1 F' H' cls dx (g1.trans g2) ⟨y1, dd, xs, y2, y3, y4.mono fun a o h => g3 a o h fun z => z⟩
    | no => rw [e1] at p1; exact p1
  · exact p1.elim
end
end VL
namespace My
open PySem PySem.Spec PyProof.Rows L2 VL TL
def B__law_cell : VEnv → Out :=
  (sSeq (sIf (cB (c2 gLt (cV 1) (cA gLen (aC (cV 0) aN)))) (sRet (c2 gIx (cV 0) (cV 1))) sNil)
    (sRet (cC (.int 0))))
def F__law_cell : List RV → Rs RV := fnD 2 B__law_cell
def L0__law_draw : VEnv → Out :=
  (sSeq (sApp 4 (c2 gMod (cV 3) (cV 5)))
    (sSet 3 (c2 gDiv (cV 3) (cV 5))))
def L1__law_draw : VEnv → Out :=
  (sSeq (sSet 6 (c2 gMod (c2 gAdd (c2 gAdd (c2 gMul (cV 6) (cC (.int 48271))) (cC (.int 11))) (cV 7)) (cC (.int 2147483647))))
    (sSeq (sSet 6 (c2 gMod (c2 gAdd (c2 gMul (cV 6) (cC (.int 69621))) (cC (.int 3))) (cC (.int 2147483647))))
    (sApp 4 (c2 gMod (c2 gDiv (cV 6) (cC (.int 7))) (c2 gIx (cV 2) (cV 7))))))
def B__law_draw : VEnv → Out :=
  (sSeq (sSet 3 (cA (fun rs => if rs.length = 2 then F__law_cell (rs.map RV.arg) else .no) (aC (cV 0) (aC (cV 1) aN))))
    (sSeq (sIf (cB (c2 gLt (cV 3) (cC (.int 0)))) (sSet 3 (c1 gNeg (cV 3))) sNil)
    (sSeq (sSet 4 (cA gList aN))
    (sSeq (sIf (cB (c2 gGe (cV 3) (c2 gPow (cC (.int 10)) (cC (.int 18))))) (sSeq (sSet 3 (c2 gSub (cV 3) (c2 gPow (cC (.int 10)) (cC (.int 18)))))
    (sSeq (sFor (.nm 5) (iL (cV 2)) L0__law_draw)
    (sRetV 4))) sNil)
    (sSeq (sSet 6 (c2 gMod (c2 gAdd (c2 gAdd (cV 3) (cC (.int 1))) (c2 gMul (cC (.int 31)) (cV 1))) (cC (.int 2147483647))))
    (sSeq (sFor (.nm 7) (iR gR1 (aC (cA gLen (aC (cV 2) aN)) aN)) L1__law_draw)
    (sRetV 4)))))))
def F__law_draw : List RV → Rs RV := fnD 8 B__law_draw
def L0__law_task : VEnv → Out :=
  (sIf (bAnd (cB (c2 gEq (c2 gIx (cV 6) (c2 gAdd (cC (.int 1)) (cV 8))) (cC (.int 1)))) (bOr (cB (c2 gGt (c2 gIx (cV 6) (cC (.int 0))) (cC (.int 1)))) (cB (c2 gGe (c2 gAdd (cV 8) (cC (.int 2))) (cV 5))))) (sApp 7 (cV 8)) sNil)
def L1__law_task : VEnv → Out :=
  (sSeq (sSet 6 (cA (fun rs => if rs.length = 3 then F__law_draw (rs.map RV.arg) else .no) (aC (cV 0) (aC (c2 gAdd (c2 gAdd (cV 1) (cC (.int 1))) (cV 5)) (aC (cA gList (aC (cC (.int 4)) (aC (cC (.int 2)) (aC (cC (.int 2)) (aC (cC (.int 2)) (aC (cC (.int 2)) (aC (cC (.int 2)) (aC (cC (.int 2)) (aC (cC (.int 2)) (aC (cC (.int 2)) aN)))))))))) aN)))))
    (sSeq (sSet 7 (cA gList aN))
    (sSeq (sFor (.nm 8) (iR gR1 (aC (cV 5) aN)) L0__law_task)
    (sApp 4 (cA gTupleC (aC (cV 7) aN))))))
def L2__law_task : VEnv → Out :=
  (sIf (bAnd (cB (c2 gGt (c2 gIx (cV 3) (cC (.int 2))) (cC (.int 0)))) (cB (c2 gEq (c2 gMod (c2 gDiv (c2 gIx (cV 3) (cC (.int 1))) (c2 gIx (cA gList (aC (cC (.int 1)) (aC (cC (.int 2)) (aC (cC (.int 4)) (aC (cC (.int 8)) (aC (cC (.int 16)) (aC (cC (.int 32)) (aC (cC (.int 64)) (aC (cC (.int 128)) aN))))))))) (cV 5))) (cC (.int 2))) (cC (.int 1))))) (sApp 9 (cV 5)) sNil)
def B__law_task : VEnv → Out :=
  (sSeq (sSet 3 (cA (fun rs => if rs.length = 3 then F__law_draw (rs.map RV.arg) else .no) (aC (cV 0) (aC (cV 1) (aC (cA gList (aC (cV 2) (aC (cC (.int 256)) (aC (cC (.int 3)) aN)))) aN)))))
    (sSeq (sSet 4 (cA gList aN))
    (sSeq (sFor (.nm 5) (iR gR1 (aC (c2 gAdd (cC (.int 1)) (c2 gIx (cV 3) (cC (.int 0)))) aN)) L1__law_task)
    (sSeq (sSet 9 (cA gList aN))
    (sSeq (sFor (.nm 5) (iR gR1 (aC (cA gLen (aC (cV 4) aN)) aN)) L2__law_task)
    (sSeq (sIf (cB (c2 gEq (cA gLen (aC (cV 9) aN)) (cC (.int 0)))) (sSet 9 (cA gList (aC (c2 gSub (cA gLen (aC (cV 4) aN)) (cC (.int 1))) aN))) sNil)
    (sRet (cA gTupl (aC (cA gTupleC (aC (cV 4) aN)) (aC (cA gTupleC (aC (cV 9) aN)) aN))))))))))
def F__law_task : List RV → Rs RV := fnD 10 B__law_task
def L0_is_possible : VEnv → Out :=
  (sIf (cB (c2 gNotIn (cV 3) (cV 1))) (sRet (cC (.bool false))) sNil)
def B_is_possible : VEnv → Out :=
  (sSeq (sFor (.nm 3) (iA (c2 gIx (c2 gIx (cV 0) (cC (.int 0))) (cV 2))) L0_is_possible)
    (sRet (cC (.bool true))))
def F_is_possible : List RV → Rs RV := fnD 4 B_is_possible
def B_moved : VEnv → Out :=
  (sSeq (sIf (cB (c2 gIn (cV 1) (cV 0))) (sRet (cA gTupleC (aC (cLc (iAb (cV 0)) [2] (.nm 2) (cB (c2 gNe (cV 2) (cV 1))) (cV 2)) aN))) sNil)
    (sRet (cA gTupleC (aC (cA gSorted (aC (c2 gAdd (cA gListC (aC (cV 0) aN)) (cA gList (aC (cV 1) aN))) aN)) aN))))
def F_moved : List RV → Rs RV := fnD 3 B_moved
def L0_transitions : VEnv → Out :=
  (sIf (cB (cA (fun rs => if rs.length = 3 then F_is_possible (rs.map RV.arg) else .no) (aC (cV 0) (aC (cV 1) (aC (cV 4) aN))))) (sSeq (sSet 5 (cA (fun rs => if rs.length = 2 then F_moved (rs.map RV.arg) else .no) (aC (cV 1) (aC (cV 4) aN))))
    (sIf (cB (c2 gLe (cA gLen (aC (cV 5) aN)) (cV 2))) (sFz 5 (sApp 3 (cA gTupl (aC (cV 4) (aC (cV 5) aN))))) sNil)) sNil)
def B_transitions : VEnv → Out :=
  (sSeq (sSet 3 (cA gList aN))
    (sSeq (sFor (.nm 4) (iR gR1 (aC (cA gLen (aC (c2 gIx (cV 0) (cC (.int 0))) aN)) aN)) L0_transitions)
    (sRetV 3)))
def F_transitions : List RV → Rs RV := fnD 6 B_transitions
def L0_shortest_plan : VEnv → Out :=
  (sIf (cB (c2 gNotInD (cV 9) (cV 4))) (sSeq (sStoreA 4 (cV 9) (c2 gAdd (c2 gIxD (cV 4) (cV 7)) (cA gList (aC (cV 8) aN))))
    (sApp 5 (cV 9))) sNil)
def L1_shortest_plan : VEnv → Out :=
  (sSeq (sSet 7 (c2 gIx (cV 5) (cV 6)))
    (sSeq (sAug 6 (RV.i2 fun i j => okI (i + j)) (cC (.int 1)))
    (sSeq (sIf (cB (c2 gEq (cV 7) (cV 3))) (sRet (c2 gIxD (cV 4) (cV 7))) sNil)
    (sFor (.tp [8, 9]) (iA (cA (fun rs => if rs.length = 3 then F_transitions (rs.map RV.arg) else .no) (aC (cV 0) (aC (cV 7) (aC (cV 1) aN))))) L0_shortest_plan))))
def B_shortest_plan : VEnv → Out :=
  (sSeq (sIf (cB (c2 gIs (cV 3) (cC .none))) (sSet 3 (c2 gIx (cV 0) (cC (.int 1)))) sNil)
    (sSeq (sIf (cB (c2 gGt (cA gLen (aC (cV 2) aN)) (cV 1))) (sRet (cC .none)) sNil)
    (sSeq (sSet 4 (cDisp1 (cV 2) (cA gList aN)))
    (sSeq (sSet 5 (cA gList (aC (cV 2) aN)))
    (sSeq (sSet 6 (cC (.int 0)))
    (sSeq (sWhile 100000 (cB (c2 gLt (cV 6) (cA gLen (aC (cV 5) aN)))) L1_shortest_plan)
    (sRet (cC .none))))))))
def F_shortest_plan : List RV → Rs RV := fnD 10 B_shortest_plan
def B__law_can : VEnv → Out :=
  (sRet (cA gAll (aC (cLc (iT (c2 gIx (cV 0) (cV 2))) [3] (.nm 3) bYes (c2 gIn (cV 3) (cV 1))) aN)))
def F__law_can : List RV → Rs RV := fnD 4 B__law_can
def B__law_moved : VEnv → Out :=
  (sSeq (sIf (cB (c2 gIn (cV 1) (cV 0))) (sRet (cA gTupleC (aC (cLc (iT (cV 0)) [2] (.nm 2) (cB (c2 gNe (cV 2) (cV 1))) (cV 2)) aN))) sNil)
    (sRet (cA gTupleC (aC (cA gSorted (aC (c2 gAdd (cA gListC (aC (cV 0) aN)) (cA gList (aC (cV 1) aN))) aN)) aN))))
def F__law_moved : List RV → Rs RV := fnD 3 B__law_moved
def L0__law_ways : VEnv → Out :=
  (sIf (cB (cA (fun rs => if rs.length = 3 then F__law_can (rs.map RV.arg) else .no) (aC (cV 0) (aC (cV 6) (aC (cV 7) aN))))) (sSeq (sSet 8 (cA (fun rs => if rs.length = 2 then F__law_moved (rs.map RV.arg) else .no) (aC (cV 6) (aC (cV 7) aN))))
    (sIf (bAnd (cB (c2 gLe (cA gLen (aC (cV 8) aN)) (cV 1))) (cB (c2 gNotInD (cV 8) (cV 3)))) (sSeq (sStoreA 3 (cV 8) (c2 gAdd (c2 gIxD (cV 3) (cV 6)) (cC (.int 1))))
    (sFz 8 (sApp 4 (cV 8)))) sNil)) sNil)
def L1__law_ways : VEnv → Out :=
  (sSeq (sSet 6 (c2 gIx (cV 4) (cV 5)))
    (sSeq (sSet 5 (c2 gAdd (cV 5) (cC (.int 1))))
    (sFor (.nm 7) (iR gR1 (aC (cA gLen (aC (cV 0) aN)) aN)) L0__law_ways)))
def B__law_ways : VEnv → Out :=
  (sSeq (sSet 3 cDT)
    (sSeq (sSet 4 (cA gList aN))
    (sSeq (sIf (cB (c2 gLe (cA gLen (aC (cV 2) aN)) (cV 1))) (sSeq (sStoreA 3 (cV 2) (cC (.int 0)))
    (sApp 4 (cV 2))) sNil)
    (sSeq (sSet 5 (cC (.int 0)))
    (sSeq (sWhile 100000 (cB (c2 gLt (cV 5) (cA gLen (aC (cV 4) aN)))) L1__law_ways)
    (sRetV 3))))))
def F__law_ways : List RV → Rs RV := fnD 9 B__law_ways
def L0__law_first : VEnv → Out :=
  (sFz 6 (sIf (bAnd (cB (c2 gLt (cV 8) (cC (.int 0)))) (cB (cA (fun rs => if rs.length = 3 then F__law_can (rs.map RV.arg) else .no) (aC (cV 0) (aC (cV 6) (aC (cV 9) aN)))))) (sSeq (sFz 6 (sSet 10 (cA (fun rs => if rs.length = 2 then F__law_moved (rs.map RV.arg) else .no) (aC (cV 6) (aC (cV 9) aN)))))
    (sIf (bAnd (cB (c2 gInD (cV 10) (cV 4))) (cB (c2 gEq (c2 gIxD (cV 4) (cV 10)) (c2 gSub (c2 gIxD (cV 4) (cV 6)) (cC (.int 1)))))) (sSet 8 (cV 9)) sNil)) sNil))
def L1__law_first : VEnv → Out :=
  (sSeq (sSet 8 (c1 gNeg (cC (.int 1))))
    (sSeq (sFor (.nm 9) (iR gR1 (aC (cA gLen (aC (cV 0) aN)) aN)) L0__law_first)
    (sSeq (sFz 8 (sApp 5 (cV 8)))
    (sFz 8 (sFz 6 (sSet 6 (cA (fun rs => if rs.length = 2 then F__law_moved (rs.map RV.arg) else .no) (aC (cV 6) (aC (cV 8) aN)))))))))
def B__law_first : VEnv → Out :=
  (sSeq (sSet 4 (cA (fun rs => if rs.length = 3 then F__law_ways (rs.map RV.arg) else .no) (aC (cV 0) (aC (cV 1) (aC (cV 3) aN)))))
    (sSeq (sIf (cB (c2 gNotInD (cV 2) (cV 4))) (sRet (cC .none)) sNil)
    (sSeq (sSet 5 (cA gList aN))
    (sSeq (sSet 6 (cV 2))
    (sSeq (sFor (.nm 7) (iR gR1 (aC (c2 gIxD (cV 4) (cV 2)) aN)) L1__law_first)
    (sRetV 5))))))
def F__law_first : List RV → Rs RV := fnD 11 B__law_first
def L0_law : VEnv → Out :=
  (sSeq (sSet 2 (cA (fun rs => if rs.length = 3 then F__law_task (rs.map RV.arg) else .no) (aC (cV 0) (aC (c2 gMul (cC (.int 8)) (cV 1)) (aC (cC (.int 6)) aN)))))
    (sSeq (sFz 2 (sUnp (.tp [3, 4]) (cV 2)))
    (sSeq (sSet 5 (c2 gAdd (cC (.int 1)) (c2 gIx (cA (fun rs => if rs.length = 3 then F__law_draw (rs.map RV.arg) else .no) (aC (cV 0) (aC (c2 gAdd (c2 gMul (cC (.int 8)) (cV 1)) (cC (.int 7))) (aC (cA gList (aC (cC (.int 7)) aN)) aN)))) (cC (.int 0)))))
    (sSeq (sFz 5 (sFz 2 (sSet 6 (cA (fun rs => if rs.length = 2 ∧ rs.all RV.plain = true then thawR (F_shortest_plan (rs.map RV.arg ++ [.tuple [], .none].map RV.d)) else .no) (aC (cV 2) (aC (cV 5) aN))))))
    (sSeq (sFz 5 (sIf (cB (c2 gNe (cV 6) (cA (fun rs => if rs.length = 4 then F__law_first (rs.map RV.arg) else .no) (aC (cV 3) (aC (cV 5) (aC (cA gTupl aN) (aC (cV 4) aN))))))) (sRet (cC (.bool false))) sNil))
    (sIf (cB (c2 gIsNot (cV 6) (cC .none))) (sSeq (sApp 6 (cC (.int 0)))
    (sFz 5 (sFz 2 (sIf (cB (c2 gNe (cA (fun rs => if rs.length = 2 then F_shortest_plan (rs.map RV.arg ++ [.tuple [], .none].map RV.d) else .no) (aC (cV 2) (aC (cV 5) aN))) (cSl (cV 6) oN (oS (c1 gNeg (cC (.int 1))))))) (sRet (cC (.bool false))) sNil)))) sNil))))))
def B_law : VEnv → Out :=
  (sSeq (sFor (.nm 1) (iR gR1 (aC (cA gMin2 (aC (cC (.int 5)) (aC (c2 gAdd (cC (.int 1)) (c2 gDiv (cA gLen (aC (cV 0) aN)) (cC (.int 8)))) aN))) aN)) L0_law)
    (sRet (cC (.bool true))))
def F_law : List RV → Rs RV := fnD 7 B_law
/-! ### cells and draws -/
def cell (ns : List Int) (k : Nat) : Int := ns.getD k 0
theorem cell_ok (ns : List Int) (k : Nat) : F__law_cell [.sc ns, .d (.int k)] = .ok (.d (.int (cell ns k))) := by
  unfold F__law_cell fnD B__law_cell
  simp [e_V]
  by_cases h : k < ns.length
  · simp [h, atI_lt, cell]
  · simp [h, cell]
/-- what the digits of a draw satisfy -/
structure Drawn (sizes ds : List Int) : Prop where
  len : ds.length = sizes.length
  lo : ∀ i (h : i < ds.length), 0 ≤ ds[i]
  hi : ∀ i (h : i < ds.length) (h' : i < sizes.length), ds[i] < sizes[i]
theorem Drawn.snoc {sizes ds : List Int} {s d : Int} (h : Drawn sizes ds) (h0 : 0 ≤ d) (h1 : d < s) : Drawn (sizes ++ [s]) (ds ++ [d]) := by
  refine ⟨by simp [h.len], fun i hi => ?_, fun i hi hi' => ?_⟩
  · by_cases c : i < ds.length
    · rw [List.getElem_append_left c]; exact h.lo i c
    · rw [List.getElem_append_right (by omega)]; simpa using h0
  · by_cases c : i < ds.length
    · rw [List.getElem_append_left c, List.getElem_append_left (by rw [← h.len]; exact c)]; exact h.hi i c _
    · rw [List.getElem_append_right (by omega), List.getElem_append_right (by rw [← h.len]; omega)]; simpa using h1
def Sizes (sizes : List Int) : Prop := ∀ s ∈ sizes, 0 < s ∧ s < 1073741824
/-- the loop of the first way -/
theorem draw_far (sizes : List Int) (hs : Sizes sizes) (a b : RV) (k : PyData) : ∀ (xs pre ds : List Int) (c : Int) (j5 j6 j7 : Option RV), pre ++ xs = sizes → Drawn pre ds → sizes.length ≤ 1000 → 0 ≤ c →
    ∃ (ds' : List Int) (c' : Int) (j5' : Option RV), loopF (.nm 5) (sSeq (sApp 4 (c2 gMod (cV 3) (cV 5))) (sSet 3 (c2 gDiv (cV 3) (cV 5)))) (xs.map .int) [some a, some b, some (.d k), some (.d (.int c)), some (.ol (ds.map .int)), j5, j6, j7] = .nx [some a, some b, some (.d k), some (.d (.int c')), some (.ol (ds'.map .int)), j5', j6, j7] ∧ Drawn sizes ds'
  | [], pre, ds, c, j5, j6, j7, e, h, hl, h0 => ⟨ds, c, j5, rfl, by rw [← e, List.append_nil]; exact h⟩
  | x :: xs, pre, ds, c, j5, j6, j7, e, h, hl, h0 => by
    have hx0 : 0 < x ∧ x < 1073741824 := hs x (by rw [← e]; simp)
    have hx : 0 < x ∧ x.natAbs < 1073741824 := by omega
    have hlen : ds.length ≤ 1000000 := by
      have : pre.length ≤ sizes.length := by (rw [← e]; simp)
      rw [h.len]; omega
    obtain ⟨ds', c', j5', e1, d1⟩ := draw_far sizes hs a b k xs (pre ++ [x]) (ds ++ [c % x]) (c / x) (some (.d (.int x))) j6 j7 (by rw [← e]; simp) (h.snoc (Int.emod_nonneg c (by omega)) (Int.emod_lt_of_pos c hx.1)) hl (Int.ediv_nonneg h0 (by omega))
    refine ⟨ds', c', j5', ?_, d1⟩
    rw [List.map_cons, loopF_cons]
    simp [e_app, e_V, hx, hlen]
    simpa using e1
/-- the loop of the second way -/
theorem draw_near (sizes : List Int) (hs : Sizes sizes) (a b : RV) (j3 j5 : Option RV) : ∀ (n i : Nat) (ds : List Int) (m : Int) (j7 : Option RV), i + n = sizes.length → Drawn (sizes.take i) ds → sizes.length ≤ 1000 → 0 ≤ m → m < 2147483647 →
    ∃ (ds' : List Int) (m' : Int) (j7' : Option RV), loopF (.nm 7) (sSeq (sSet 6 (c2 gMod (c2 gAdd (c2 gAdd (c2 gMul (cV 6) (cC (.int 48271))) (cC (.int 11))) (cV 7)) (cC (.int 2147483647))))
    (sSeq (sSet 6 (c2 gMod (c2 gAdd (c2 gMul (cV 6) (cC (.int 69621))) (cC (.int 3))) (cC (.int 2147483647))))
    (sApp 4 (c2 gMod (c2 gDiv (cV 6) (cC (.int 7))) (c2 gIx (cV 2) (cV 7)))))) ((List.range' i n).map fun k : Nat => .int (k : Int)) [some a, some b, some (.d (.list (sizes.map .int))), j3, some (.ol (ds.map .int)), j5, some (.d (.int m)), j7] = .nx [some a, some b, some (.d (.list (sizes.map .int))), j3, some (.ol (ds'.map .int)), j5, some (.d (.int m')), j7'] ∧ Drawn sizes ds'
  | 0, i, ds, m, j7, e, h, hl, h0, h1 => ⟨ds, m, j7, rfl, by rw [Nat.add_zero] at e; rw [e, List.take_length] at h; exact h⟩
  | n + 1, i, ds, m, j7, e, h, hl, h0, h1 => by
    have hi : i < sizes.length := by omega
    have hx : 0 < sizes[i] ∧ sizes[i] < 1073741824 := hs _ (List.getElem_mem hi)
    have hlen : ds.length ≤ 1000000 := by rw [h.len, List.length_take]; omega
    have q1 : 0 ≤ ((m * 48271 + 11 + (i : Int)) % 2147483647 * 69621 + 3) % 2147483647 := Int.emod_nonneg _ (by decide)
    have q2 : ((m * 48271 + 11 + (i : Int)) % 2147483647 * 69621 + 3) % 2147483647 < 2147483647 := Int.emod_lt_of_pos _ (by decide)
    have q3 : 0 ≤ (m * 48271 + 11 + (i : Int)) % 2147483647 := Int.emod_nonneg _ (by decide)
    have q4 : (m * 48271 + 11 + (i : Int)) % 2147483647 < 2147483647 := Int.emod_lt_of_pos _ (by decide)
    have et : sizes.take (i + 1) = sizes.take i ++ [sizes[i]] := by rw [List.take_add_one, List.getElem?_eq_getElem hi]; rfl
    obtain ⟨ds', m', j7', e1, d1⟩ := draw_near sizes hs a b j3 j5 n (i + 1) (ds ++ [((m * 48271 + 11 + (i : Int)) % 2147483647 * 69621 + 3) % 2147483647 / 7 % sizes[i]]) (((m * 48271 + 11 + (i : Int)) % 2147483647 * 69621 + 3) % 2147483647) (some (.d (.int i))) (by omega)
      (by rw [et]; exact h.snoc (Int.emod_nonneg _ (by omega)) (Int.emod_lt_of_pos _ hx.1)) hl q1 q2
    refine ⟨ds', m', j7', ?_, d1⟩
    rw [List.range'_succ, List.map_cons, loopF_cons]
    have b1 : m.natAbs < 18446744073709551616 := by omega
    have b2 : ((m * 48271 + 11 + (i : Int)) % 2147483647).natAbs < 18446744073709551616 := by omega
    have ea : atI (sizes.map PyData.int) (i : Int) = some (.int sizes[i]) := by rw [atI_lt (by omega) (by simpa using hi)]; simp [hi]
    simp [e_app, e_V, hlen, ea, hx, b1, b2]
    simpa using e1
/-- what follows the cell -/
def drawTail : VEnv → Out := (sSeq (sSet 4 (cA gList aN))
    (sSeq (sIf (cB (c2 gGe (cV 3) (c2 gPow (cC (.int 10)) (cC (.int 18))))) (sSeq (sSet 3 (c2 gSub (cV 3) (c2 gPow (cC (.int 10)) (cC (.int 18)))))
    (sSeq (sFor (.nm 5) (iL (cV 2)) (sSeq (sApp 4 (c2 gMod (cV 3) (cV 5)))
    (sSet 3 (c2 gDiv (cV 3) (cV 5)))))
    (sRetV 4))) sNil)
    (sSeq (sSet 6 (c2 gMod (c2 gAdd (c2 gAdd (cV 3) (cC (.int 1))) (c2 gMul (cC (.int 31)) (cV 1))) (cC (.int 2147483647))))
    (sSeq (sFor (.nm 7) (iR gR1 (aC (cA gLen (aC (cV 2) aN)) aN)) (sSeq (sSet 6 (c2 gMod (c2 gAdd (c2 gAdd (c2 gMul (cV 6) (cC (.int 48271))) (cC (.int 11))) (cV 7)) (cC (.int 2147483647))))
    (sSeq (sSet 6 (c2 gMod (c2 gAdd (c2 gMul (cV 6) (cC (.int 69621))) (cC (.int 3))) (cC (.int 2147483647))))
    (sApp 4 (c2 gMod (c2 gDiv (cV 6) (cC (.int 7))) (c2 gIx (cV 2) (cV 7)))))))
    (sRetV 4)))))
theorem draw_far' (ns : List Int) (k : Nat) (sizes : List Int) (hs : Sizes sizes) (hl : sizes.length ≤ 1000) (c : Int) (hf : 1000000000000000000 ≤ c) :
    ∃ ds : List Int, drawTail [some (.sc ns), some (.d (.int k)), some (.d (.list (sizes.map .int))), some (.d (.int c)), none, none, none, none] = .rt (.ol (ds.map .int)) ∧ Drawn sizes ds := by
  obtain ⟨ds', c', j5', e1, d1⟩ := draw_far sizes hs (.sc ns) (.d (.int k)) (.list (sizes.map .int)) sizes [] [] (c - 1000000000000000000) none none none (by simp) ⟨rfl, fun i h => by simp at h, fun i h => by simp at h⟩ hl (by omega)
  refine ⟨ds', ?_, d1⟩
  simp at e1
  unfold drawTail
  simp [e_V, hf, e1, e_retV]
theorem mix_ok (ns : List Int) (k : Nat) (sizes : List Int) (c : Int) : sSet 6 (c2 gMod (c2 gAdd (c2 gAdd (cV 3) (cC (.int 1))) (c2 gMul (cC (.int 31)) (cV 1))) (cC (.int 2147483647))) [some (.sc ns), some (.d (.int k)), some (.d (.list (sizes.map .int))), some (.d (.int c)), some (.ol []), none, none, none]
      = .nx [some (.sc ns), some (.d (.int k)), some (.d (.list (sizes.map .int))), some (.d (.int c)), some (.ol []), none, some (.d (.int ((c + 1 + 31 * (k : Int)) % 2147483647))), none] := by
  simp only [e_set, e_c2, e_V, List.getElem?_cons_zero, List.getElem?_cons_succ, Rs.bind_ok, e_bor1, e_cC, e_addI]
  rw [e_mul, if_pos (Or.inl (by decide))]
  simp only [Rs.bind_ok, e_addI]
  rw [e_mod, if_pos (by decide)]
  simp only [Rs.out_ok, e_putd]
  rw [if_pos (by show 6 < 8; decide)]
  rfl
theorem draw_near' (ns : List Int) (k : Nat) (sizes : List Int) (hs : Sizes sizes) (hl : sizes.length ≤ 1000) (c : Int) (hf : ¬ 1000000000000000000 ≤ c) :
    ∃ ds : List Int, drawTail [some (.sc ns), some (.d (.int k)), some (.d (.list (sizes.map .int))), some (.d (.int c)), none, none, none, none] = .rt (.ol (ds.map .int)) ∧ Drawn sizes ds := by
  obtain ⟨m, hm⟩ : ∃ m, m = (c + 1 + 31 * (k : Int)) % 2147483647 := ⟨_, rfl⟩
  have m0 : 0 ≤ m := by rw [hm]; exact Int.emod_nonneg _ (by decide)
  have m1 : m < 2147483647 := by rw [hm]; exact Int.emod_lt_of_pos _ (by decide)
  have hset := mix_ok ns k sizes c
  rw [← hm] at hset
  clear hm
  obtain ⟨ds', m', j7', e1, d1⟩ := draw_near sizes hs (.sc ns) (.d (.int k)) (some (.d (.int c))) none sizes.length 0 [] m none (by omega) ⟨rfl, fun i h => by simp at h, fun i h => by simp at h⟩ hl m0 m1
  refine ⟨ds', ?_, d1⟩
  rw [← List.range_eq_range', ← rngL_eq] at e1
  have hr : iR gR1 (aC (cA gLen (aC (cV 2) aN)) aN) [some (.sc ns), some (.d (.int k)), some (.d (.list (sizes.map .int))), some (.d (.int c)), some (.ol []), none, some (.d (.int m)), none] = .ok (rngL 0 sizes.length) := by
    have b1 : (sizes.map PyData.int).length ≤ 1000000 := by rw [List.length_map]; omega
    have := e_R1n b1
    rw [List.length_map] at this
    simp only [e_iR, e_aC, e_cA, e_aN, e_V, List.getElem?_cons_succ, List.getElem?_cons_zero, Rs.bind_ok, e_bor1, e_lenL, List.length_map]
    exact this
  have hc : cB (c2 gGe (cV 3) (c2 gPow (cC (.int 10)) (cC (.int 18)))) [some (.sc ns), some (.d (.int k)), some (.d (.list (sizes.map .int))), some (.d (.int c)), some (.ol []), none, none, none] = .ok false := by
    simp [e_V, hf]
  have h4 : sSet 4 (cA gList aN) [some (.sc ns), some (.d (.int k)), some (.d (.list (sizes.map .int))), some (.d (.int c)), none, none, none, none] = .nx [some (.sc ns), some (.d (.int k)), some (.d (.list (sizes.map .int))), some (.d (.int c)), some (.ol []), none, none, none] := by simp
  unfold drawTail
  rw [e_seq, h4, Out.then_nx, e_seq, e_if, hc]
  simp only [Rs.out_ok, Bool.false_eq_true, if_false, e_nil, Out.then_nx]
  rw [e_seq, hset, Out.then_nx, e_seq, e_for, hr]
  simp only [Rs.out_ok]
  rw [show ([] : List PyData) = ([] : List Int).map .int from rfl, e1]
  simp [e_retV]
theorem draw_ok (ns : List Int) (k : Nat) (sizes : List Int) (hs : Sizes sizes) (hl : sizes.length ≤ 1000) : ∃ ds : List Int, F__law_draw [.sc ns, .d (.int k), .d (.list (sizes.map .int))] = .ok (.ol (ds.map .int)) ∧ Drawn sizes ds := by
  have eb : B__law_draw = sSeq (sSet 3 (cA (fun rs => if rs.length = 2 then F__law_cell (rs.map RV.arg) else .no) (aC (cV 0) (aC (cV 1) aN))))
    (sSeq (sIf (cB (c2 gLt (cV 3) (cC (.int 0)))) (sSet 3 (c1 gNeg (cV 3))) sNil) drawTail) := rfl
  unfold F__law_draw fnD
  rw [eb]
  have hc := cell_ok ns k
  generalize cell ns k = c at hc
  have step : ∀ c : Int, ∃ ds : List Int, drawTail [some (.sc ns), some (.d (.int k)), some (.d (.list (sizes.map .int))), some (.d (.int c)), none, none, none, none] = .rt (.ol (ds.map .int)) ∧ Drawn sizes ds := fun c => by
    by_cases hf : (1000000000000000000 : Int) ≤ c
    · exact draw_far' ns k sizes hs hl c hf
    · exact draw_near' ns k sizes hs hl c hf
  simp [e_V, hc]
  by_cases hn : c < 0
  · obtain ⟨ds, e1, d1⟩ := step (-c)
    refine ⟨ds, ?_, d1⟩
    simp [hn, e_V, e1]
  · obtain ⟨ds, e1, d1⟩ := step c
    refine ⟨ds, ?_, d1⟩
    simp [hn, e_V, e1]
/-! ### drawn tasks -/
theorem loopF_ex {β : Type} {tg : Tg} {f : VEnv → Out} (R : Nat → VEnv → Prop) (emb : β → PyData) (xs : List β) (env : VEnv)
    (h : ∀ i env x, xs[i]? = some x → R i env → ∃ e1, tgE tg (emb x) env = some e1 ∧ ∃ env', (f e1 = .nx env' ∨ f e1 = .ct env') ∧ R (i + 1) env') (h0 : R 0 env) : ∃ env', loopF tg f (xs.map emb) env = .nx env' ∧ R xs.length env' := by
  obtain ⟨env', e, r⟩ := loopF_rel (α := Unit) (fun i _ env => R i env) emb (fun _ _ => ()) xs () env (fun i _ env x hx r => h i env x hx r) h0
  exact ⟨env', e, r⟩
def natI (k : Nat) : PyData := .int (k : Int)
theorem rng_nat (n : Nat) : rngL 0 n = (List.range n).map natI := rngL_eq n
/-- ascending, from 0 to below b -/
structure Asc (b : Int) (xs : List Int) : Prop where
  up : xs.Pairwise (· < ·)
  lo : ∀ x ∈ xs, 0 ≤ x
  hi : ∀ x ∈ xs, x < b
theorem Asc.nil (b : Int) : Asc b [] := ⟨.nil, by simp, by simp⟩
theorem Asc.snoc {b x : Int} {xs : List Int} (h : Asc x xs) (h0 : 0 ≤ x) (h1 : x < b) : Asc b (xs ++ [x]) :=
  ⟨List.pairwise_append.mpr ⟨h.up, List.pairwise_singleton _ _, fun y hy z hz => by rw [List.mem_singleton.mp hz]; exact h.hi y hy⟩,
    fun y hy => by rcases List.mem_append.mp hy with z | z; exact h.lo y z; rw [List.mem_singleton.mp z]; exact h0,
    fun y hy => by rcases List.mem_append.mp hy with z | z; (have := h.hi y z; omega); rw [List.mem_singleton.mp z]; exact h1⟩
theorem Asc.mono {b c : Int} {xs : List Int} (h : Asc b xs) (e : b ≤ c) : Asc c xs := ⟨h.up, h.lo, fun x hx => Int.lt_of_lt_of_le (h.hi x hx) e⟩
theorem Asc.len {b : Nat} : ∀ {xs : List Int}, Asc b xs → xs.length ≤ b := by
  induction b with
  | zero => intro xs h; cases xs with
    | nil => simp
    | cons x xs => have := h.lo x List.mem_cons_self; have := h.hi x List.mem_cons_self; omega
  | succ b ih =>
    intro xs h
    rcases List.eq_nil_or_concat xs with rfl | ⟨ys, y, rfl⟩
    · simp
    · rw [List.concat_eq_append] at h ⊢
      have hu := List.pairwise_append.mp h.up
      have : Asc (b : Int) ys := ⟨hu.1, fun z hz => h.lo z (List.mem_append_left _ hz), fun z hz => by
        have h1 := hu.2.2 z hz y (List.mem_singleton.mpr rfl)
        have h2 := h.hi y (List.mem_append_right _ (List.mem_singleton.mpr rfl))
        omega⟩
      have := ih this
      simp
      omega
/-- a task: each step uses ascending earlier steps; ascending targets, at least one -/
structure WF (most : Nat) (us : List (List Int)) (ts : List Int) : Prop where
  one : 1 ≤ us.length
  len : us.length ≤ most
  use : ∀ (k : Nat) (u : List Int), us[k]? = some u → Asc k u
  tgt : Asc us.length ts
  some : ts ≠ []
theorem drawn_at {sizes ds : List Int} (h : Drawn sizes ds) {i : Nat} {s : Int} (hi : sizes[i]? = some s) : ∃ d, ds[i]? = some d ∧ 0 ≤ d ∧ d < s := by
  obtain ⟨h1, h2⟩ := List.getElem?_eq_some_iff.mp hi
  have h3 : i < ds.length := by rw [h.len]; exact h1
  exact ⟨ds[i], List.getElem?_eq_getElem h3, h.lo i h3, by rw [← h2]; exact h.hi i h3 h1⟩
theorem atI_ints {ds : List Int} {i : Nat} {d : Int} (h : ds[i]? = some d) : atI (ds.map PyData.int) (i : Int) = some (.int d) := by
  rw [atI_lt (by omega) (by simpa using (List.getElem?_eq_some_iff.mp h).1)]
  simp [h]
theorem range_at {n i x : Nat} (h : (List.range n)[i]? = some x) : x = i ∧ i < n := by
  have hi : i < n := by simpa using (List.getElem?_eq_some_iff.mp h).1
  rw [List.getElem?_range hi] at h
  exact ⟨(Option.some.inj h).symm, hi⟩
/-! ### draws as naturals -/
theorem draw_nat (ns : List Int) (k : Nat) (sz : List Nat) (hs : ∀ s ∈ sz, 0 < s ∧ s < 1000000) (hl : sz.length ≤ 1000) : ∃ nd : List Nat, F__law_draw [.sc ns, .d (.int k), .d (.list (sz.map natI))] = .ok (.ol (nd.map natI)) ∧ nd.length = sz.length ∧ ∀ (i s : Nat), sz[i]? = some s → ∃ d, nd[i]? = some d ∧ d < s := by
  obtain ⟨ds, e, dr⟩ := draw_ok ns k (sz.map fun n : Nat => (n : Int)) (by
    intro s hs'
    obtain ⟨n, hn, rfl⟩ := List.mem_map.mp hs'
    have := hs n hn
    omega) (by simpa using hl)
  have el : ds.length = sz.length := by have := dr.len; simpa using this
  have eds : ds = (ds.map Int.toNat).map fun n : Nat => (n : Int) := by
    rw [List.map_map]
    refine (List.map_id _).symm.trans (List.map_congr_left fun x hx => ?_)
    obtain ⟨i, hi, rfl⟩ := List.getElem_of_mem hx
    have := dr.lo i hi
    show ds[i] = ((ds[i].toNat : Nat) : Int)
    omega
  have m1 : (sz.map fun n : Nat => (n : Int)).map PyData.int = sz.map natI := by rw [List.map_map]; rfl
  have m2 : ds.map PyData.int = (ds.map Int.toNat).map natI := by
    conv => lhs; rw [eds]
    rw [List.map_map]; rfl
  rw [m1, m2] at e
  refine ⟨ds.map Int.toNat, e, by simpa using el, fun i s hi => ?_⟩
  obtain ⟨d, q1, q2, q3⟩ := drawn_at dr (i := i) (s := (s : Int)) (by rw [List.getElem?_map, hi]; rfl)
  exact ⟨d.toNat, by rw [List.getElem?_map, q1]; rfl, by omega⟩
theorem atI_nats {ds : List Nat} {i d : Nat} (h : ds[i]? = some d) : atI (ds.map natI) (i : Int) = some (natI d) := by
  rw [atI_lt (by omega) (by simpa using (List.getElem?_eq_some_iff.mp h).1)]
  simp [h]
theorem e_modN (a n : Nat) (h : 0 < n) : gMod (.d (.int a)) (.d (.int n)) = .ok (.d (.int ((a % n : Nat) : Int))) := by
  rw [e_mod, if_pos (by omega)]
  rfl
/-! ### tasks as data -/
def encU (us : List (List Int)) : List PyData := us.map fun u => .tuple (u.map .int)
def encT (us : List (List Int)) (ts : List Int) : PyData := .tuple [.tuple (encU us), .tuple (ts.map .int)]
def usAt (us : List (List Int)) (o : Int) : List Int := us.getD o.toNat []
theorem encU_len (us : List (List Int)) : (encU us).length = us.length := by simp [encU]
theorem encU_at (us : List (List Int)) {o : Int} (h0 : 0 ≤ o) (h1 : o < us.length) : atI (encU us) o = some (.tuple ((usAt us o).map .int)) := by
  have h : o.toNat < us.length := by omega
  rw [atI_lt h0 (by simpa [encU] using h1)]
  simp [encU, h, usAt]
theorem tk_in (a b c d e : Option RV) (k : Nat) (ds : List Int) (hd : ds.length = 9) (hk : k ≤ 8) (j8 j9 : Option RV) :
    ∃ row j8', loopF (.nm 8) L0__law_task ((List.range k).map natI) [a, b, c, d, e, some (.d (natI k)), some (.ol (ds.map .int)), some (.ol []), j8, j9] = .nx [a, b, c, d, e, some (.d (natI k)), some (.ol (ds.map .int)), some (.ol (row.map .int)), j8', j9] ∧ Asc k row := by
  obtain ⟨env', e1, row, j8', rfl, ha, _⟩ := loopF_ex (tg := .nm 8) (f := L0__law_task) (fun i env => ∃ row j8', env = [a, b, c, d, e, some (.d (natI k)), some (.ol (ds.map .int)), some (.ol (row.map .int)), j8', j9] ∧ Asc i row ∧ row.length ≤ i) natI (List.range k)
    [a, b, c, d, e, some (.d (natI k)), some (.ol (ds.map .int)), some (.ol []), j8, j9] (by
      rintro i env x hx ⟨row, j, rfl, ha, hl⟩
      have hi : i < k := by simpa using (List.getElem?_eq_some_iff.mp hx).1
      have ex : x = i := by rw [List.getElem?_range hi] at hx; exact (Option.some.inj hx).symm
      subst ex
      obtain ⟨d1, hd1⟩ : ∃ d1, ds[1 + x]? = some d1 := ⟨_, List.getElem?_eq_getElem (by omega)⟩
      obtain ⟨d0, hd0⟩ : ∃ d0, ds[0]? = some d0 := ⟨_, List.getElem?_eq_getElem (by omega)⟩
      have q1 : atI (ds.map PyData.int) (1 + (x : Int)) = some (.int d1) := by have := atI_ints hd1; simpa using this
      have q0 : atI (ds.map PyData.int) 0 = some (.int d0) := by have := atI_ints hd0; simpa using this
      refine ⟨_, rfl, ?_⟩
      have hstay : ∃ env', (sNil [a, b, c, d, e, some (.d (natI k)), some (.ol (ds.map .int)), some (.ol (row.map .int)), some (.d (natI x)), j9] = .nx env' ∨ sNil [a, b, c, d, e, some (.d (natI k)), some (.ol (ds.map .int)), some (.ol (row.map .int)), some (.d (natI x)), j9] = .ct env') ∧ ∃ row j8', env' = [a, b, c, d, e, some (.d (natI k)), some (.ol (ds.map .int)), some (.ol (row.map .int)), j8', j9] ∧ Asc (x + 1 : Nat) row ∧ row.length ≤ x + 1 :=
        ⟨_, .inl rfl, row, _, rfl, ha.mono (by omega), by omega⟩
      have hput : ∃ env', (sApp 7 (cV 8) [a, b, c, d, e, some (.d (natI k)), some (.ol (ds.map .int)), some (.ol (row.map .int)), some (.d (natI x)), j9] = .nx env' ∨ sApp 7 (cV 8) [a, b, c, d, e, some (.d (natI k)), some (.ol (ds.map .int)), some (.ol (row.map .int)), some (.d (natI x)), j9] = .ct env') ∧ ∃ row j8', env' = [a, b, c, d, e, some (.d (natI k)), some (.ol (ds.map .int)), some (.ol (row.map .int)), j8', j9] ∧ Asc (x + 1 : Nat) row ∧ row.length ≤ x + 1 := by
        refine ⟨[a, b, c, d, e, some (.d (natI k)), some (.ol (ds.map .int)), some (.ol ((row ++ [(x : Int)]).map .int)), some (.d (natI x)), j9], .inl ?_, _, _, rfl, ha.snoc (by omega) (by omega), by simp; omega⟩
        have : row.length ≤ 1000000 := by omega
        simp [e_app, e_V, this, natI]
      obtain ⟨t, ht⟩ : ∃ t, (bAnd (cB (c2 gEq (c2 gIx (cV 6) (c2 gAdd (cC (.int 1)) (cV 8))) (cC (.int 1)))) (bOr (cB (c2 gGt (c2 gIx (cV 6) (cC (.int 0))) (cC (.int 1)))) (cB (c2 gGe (c2 gAdd (cV 8) (cC (.int 2))) (cV 5))))) [a, b, c, d, e, some (.d (natI k)), some (.ol (ds.map .int)), some (.ol (row.map .int)), some (.d (natI x)), j9] = .ok t := by
        simp only [e_bAnd, e_bOr, e_cB, e_c2, e_V, List.getElem?_cons_succ, List.getElem?_cons_zero, Rs.bind_ok, e_bor1, e_bor2, natI, e_cC, e_addI, e_ixB, q1, q0, rsO_some, e_eq, e_data1, sh_int, and_self, if_true, eqv_int, e_okB, e_asB, e_gt, e_ge]
        by_cases c1 : d1 = 1
        · rw [decide_eq_true c1, if_pos rfl]
          by_cases c2 : (1 : Int) < d0
          · rw [decide_eq_true c2, if_pos rfl]; exact ⟨_, rfl⟩
          · rw [decide_eq_false c2, if_neg Bool.false_ne_true]; exact ⟨_, rfl⟩
        · rw [decide_eq_false c1, if_neg Bool.false_ne_true]; exact ⟨_, rfl⟩
      show ∃ env', (L0__law_task [a, b, c, d, e, some (.d (natI k)), some (.ol (ds.map .int)), some (.ol (row.map .int)), some (.d (natI x)), j9] = .nx env' ∨ L0__law_task [a, b, c, d, e, some (.d (natI k)), some (.ol (ds.map .int)), some (.ol (row.map .int)), some (.d (natI x)), j9] = .ct env') ∧ _
      unfold L0__law_task
      rw [e_if, ht, Rs.out_ok]
      cases t with
      | true => rw [if_pos rfl]; exact hput
      | false => rw [if_neg Bool.false_ne_true]; exact hstay) ⟨[], j8, rfl, Asc.nil _, by simp⟩
  rw [List.length_range] at ha
  exact ⟨row, j8', e1, ha⟩
def sz9 : List Int := [4, 2, 2, 2, 2, 2, 2, 2, 2]
theorem tk_out (ns : List Int) (at0 most : Nat) (hd : List Int) (m : Nat) (hm : m ≤ 8) (h9 : Option RV) :
    ∃ us j5 j6 j7 j8, loopF (.nm 5) L1__law_task ((List.range m).map natI) [some (.sc ns), some (.d (natI at0)), some (.d (natI most)), some (.ol (hd.map .int)), some (.ol []), none, none, none, none, h9]
      = .nx [some (.sc ns), some (.d (natI at0)), some (.d (natI most)), some (.ol (hd.map .int)), some (.ol (encU us)), j5, j6, j7, j8, h9] ∧ us.length = m ∧ ∀ (k : Nat) (u : List Int), us[k]? = some u → Asc k u := by
  obtain ⟨env', e1, us, j5, j6, j7, j8, rfl, hl, hu⟩ := loopF_ex (tg := .nm 5) (f := L1__law_task) (fun i env => ∃ us j5 j6 j7 j8, env = [some (.sc ns), some (.d (natI at0)), some (.d (natI most)), some (.ol (hd.map .int)), some (.ol (encU us)), j5, j6, j7, j8, h9] ∧ us.length = i ∧ ∀ (k : Nat) (u : List Int), us[k]? = some u → Asc k u) natI (List.range m)
    [some (.sc ns), some (.d (natI at0)), some (.d (natI most)), some (.ol (hd.map .int)), some (.ol []), none, none, none, none, h9] (by
      rintro i env x hx ⟨us, j5, j6, j7, j8, rfl, hl, hu⟩
      have hi : i < m := by simpa using (List.getElem?_eq_some_iff.mp hx).1
      have ex : x = i := by rw [List.getElem?_range hi] at hx; exact (Option.some.inj hx).symm
      subst ex
      obtain ⟨ds, hds, dr⟩ := draw_ok ns (at0 + 1 + x) sz9 (by unfold Sizes sz9; decide) (by decide)
      have e9 : ds.length = 9 := dr.len
      obtain ⟨row, j8', e2, ha⟩ := tk_in (some (.sc ns)) (some (.d (natI at0))) (some (.d (natI most))) (some (.ol (hd.map .int))) (some (.ol (encU us))) x ds e9 (by omega) j8 h9
      have hz : us.length ≤ 1000000 := by omega
      refine ⟨_, rfl, [some (.sc ns), some (.d (natI at0)), some (.d (natI most)), some (.ol (hd.map .int)), some (.ol (encU (us ++ [row]))), some (.d (natI x)), some (.ol (ds.map .int)), some (.ol (row.map .int)), j8', h9], .inl ?_, us ++ [row], _, _, _, _, rfl, by simp [hl], fun k u hk => ?_⟩
      · have s6 : sSet 6 (cA (fun rs => if rs.length = 3 then F__law_draw (rs.map RV.arg) else .no) (aC (cV 0) (aC (c2 gAdd (c2 gAdd (cV 1) (cC (.int 1))) (cV 5)) (aC (cA gList (aC (cC (.int 4)) (aC (cC (.int 2)) (aC (cC (.int 2)) (aC (cC (.int 2)) (aC (cC (.int 2)) (aC (cC (.int 2)) (aC (cC (.int 2)) (aC (cC (.int 2)) (aC (cC (.int 2)) aN)))))))))) aN))))
            [some (.sc ns), some (.d (natI at0)), some (.d (natI most)), some (.ol (hd.map .int)), some (.ol (encU us)), some (.d (natI x)), j6, j7, j8, h9] = .nx [some (.sc ns), some (.d (natI at0)), some (.d (natI most)), some (.ol (hd.map .int)), some (.ol (encU us)), some (.d (natI x)), some (.ol (ds.map .int)), j7, j8, h9] := by
          have : F__law_draw [.sc ns, .d (.int ((at0 : Int) + 1 + (x : Int))), .d (.list [.int 4, .int 2, .int 2, .int 2, .int 2, .int 2, .int 2, .int 2, .int 2])] = .ok (.ol (ds.map .int)) := by
            have e : ((at0 + 1 + x : Nat) : Int) = (at0 : Int) + 1 + (x : Int) := by omega
            rw [← e]; exact hds
          simp [e_V, natI, this]
        have s7 : sSet 7 (cA gList aN) [some (.sc ns), some (.d (natI at0)), some (.d (natI most)), some (.ol (hd.map .int)), some (.ol (encU us)), some (.d (natI x)), some (.ol (ds.map .int)), j7, j8, h9] = .nx [some (.sc ns), some (.d (natI at0)), some (.d (natI most)), some (.ol (hd.map .int)), some (.ol (encU us)), some (.d (natI x)), some (.ol (ds.map .int)), some (.ol []), j8, h9] := by simp
        have hr : iR gR1 (aC (cV 5) aN) [some (.sc ns), some (.d (natI at0)), some (.d (natI most)), some (.ol (hd.map .int)), some (.ol (encU us)), some (.d (natI x)), some (.ol (ds.map .int)), some (.ol []), j8, h9] = .ok ((List.range x).map natI) := by
          have := e_R1n (n := x) (by omega)
          rw [rng_nat] at this
          simp [e_V, natI, this]
        show sSeq _ _ [some (.sc ns), some (.d (natI at0)), some (.d (natI most)), some (.ol (hd.map .int)), some (.ol (encU us)), some (.d (natI x)), j6, j7, j8, h9] = _
        rw [e_seq, s6, Out.then_nx, e_seq, s7, Out.then_nx, e_seq, e_for, hr, Rs.out_ok, e2, Out.then_nx]
        simp [e_app, e_V, hz, encU]
      · by_cases c : k < us.length
        · rw [List.getElem?_append_left c] at hk; exact hu k u hk
        · rw [List.getElem?_append_right (by omega)] at hk
          have : k - us.length = 0 := by
            have := (List.getElem?_eq_some_iff.mp hk).1
            simp at this; omega
          rw [this] at hk
          cases hk
          have : k = us.length := by omega
          rw [this, hl]
          exact ha) ⟨[], none, none, none, none, rfl, rfl, by simp⟩
  rw [List.length_range] at hl
  exact ⟨us, j5, j6, j7, j8, e1, hl, hu⟩
def pows : List Int := [1, 2, 4, 8, 16, 32, 64, 128]
theorem tk_tgt (a b c : Option RV) (h0 h1 h2 : Int) (us : List (List Int)) (hl : us.length ≤ 8) (j5 j6 j7 j8 : Option RV) :
    ∃ ts j5', loopF (.nm 5) L2__law_task ((List.range us.length).map natI) [a, b, c, some (.ol ([h0, h1, h2].map .int)), some (.ol (encU us)), j5, j6, j7, j8, some (.ol [])] = .nx [a, b, c, some (.ol ([h0, h1, h2].map .int)), some (.ol (encU us)), j5', j6, j7, j8, some (.ol (ts.map .int))] ∧ Asc us.length ts := by
  obtain ⟨env', e1, ts, j5', rfl, ha, _⟩ := loopF_ex (tg := .nm 5) (f := L2__law_task) (fun i env => ∃ ts j5', env = [a, b, c, some (.ol ([h0, h1, h2].map .int)), some (.ol (encU us)), j5', j6, j7, j8, some (.ol (ts.map .int))] ∧ Asc i ts ∧ ts.length ≤ i) natI (List.range us.length)
    [a, b, c, some (.ol ([h0, h1, h2].map .int)), some (.ol (encU us)), j5, j6, j7, j8, some (.ol [])] (by
      rintro i env x hx ⟨ts, j, rfl, ha, hz⟩
      have hi : i < us.length := by simpa using (List.getElem?_eq_some_iff.mp hx).1
      have ex : x = i := by rw [List.getElem?_range hi] at hx; exact (Option.some.inj hx).symm
      subst ex
      obtain ⟨p, hp⟩ : ∃ p, pows[x]? = some p := ⟨_, List.getElem?_eq_getElem (by show x < 8; omega)⟩
      have hpp : 0 < p ∧ p.natAbs < 1073741824 := by
        have : ∀ q ∈ pows, 0 < q ∧ q.natAbs < 1073741824 := by unfold pows; decide
        exact this p (List.mem_of_getElem? hp)
      have q1 : atI [PyData.int 1, .int 2, .int 4, .int 8, .int 16, .int 32, .int 64, .int 128] (x : Int) = some (.int p) := atI_ints hp
      have w1 : atI [PyData.int h0, .int h1, .int h2] 1 = some (.int h1) := rfl
      have w2 : atI [PyData.int h0, .int h1, .int h2] 2 = some (.int h2) := rfl
      refine ⟨_, rfl, ?_⟩
      obtain ⟨t, ht⟩ : ∃ t, (bAnd (cB (c2 gGt (c2 gIx (cV 3) (cC (.int 2))) (cC (.int 0)))) (cB (c2 gEq (c2 gMod (c2 gDiv (c2 gIx (cV 3) (cC (.int 1))) (c2 gIx (cA gList (aC (cC (.int 1)) (aC (cC (.int 2)) (aC (cC (.int 4)) (aC (cC (.int 8)) (aC (cC (.int 16)) (aC (cC (.int 32)) (aC (cC (.int 64)) (aC (cC (.int 128)) aN))))))))) (cV 5))) (cC (.int 2))) (cC (.int 1))))) [a, b, c, some (.ol ([h0, h1, h2].map .int)), some (.ol (encU us)), some (.d (natI x)), j6, j7, j8, some (.ol (ts.map .int))] = .ok t := by
        by_cases c2 : (0 : Int) < h2
        · simp [e_V, natI, w1, w2, q1, c2, hpp]
        · simp [e_V, natI, w1, w2, q1, c2, hpp]
      show ∃ env', (L2__law_task [a, b, c, some (.ol ([h0, h1, h2].map .int)), some (.ol (encU us)), some (.d (natI x)), j6, j7, j8, some (.ol (ts.map .int))] = .nx env' ∨ L2__law_task [a, b, c, some (.ol ([h0, h1, h2].map .int)), some (.ol (encU us)), some (.d (natI x)), j6, j7, j8, some (.ol (ts.map .int))] = .ct env') ∧ _
      unfold L2__law_task
      rw [e_if, ht, Rs.out_ok]
      cases t with
      | true =>
        rw [if_pos rfl]
        refine ⟨[a, b, c, some (.ol ([h0, h1, h2].map .int)), some (.ol (encU us)), some (.d (natI x)), j6, j7, j8, some (.ol ((ts ++ [(x : Int)]).map .int))], .inl ?_, _, _, rfl, ha.snoc (by omega) (by omega), by simp; omega⟩
        have : ts.length ≤ 1000000 := by omega
        simp [e_app, e_V, this, natI]
      | false =>
        rw [if_neg Bool.false_ne_true]
        exact ⟨_, .inl rfl, ts, _, rfl, ha.mono (by omega), by omega⟩) ⟨[], j5, rfl, Asc.nil _, by simp⟩
  rw [List.length_range] at ha
  exact ⟨ts, j5', e1, ha⟩
theorem task_ok (ns : List Int) (at0 most : Nat) (hm1 : 1 ≤ most) (hm : most ≤ 8) : ∃ us ts, F__law_task [.sc ns, .d (natI at0), .d (natI most)] = .ok (.d (encT us ts)) ∧ WF most us ts := by
  obtain ⟨hd, hds, dr⟩ := draw_ok ns at0 [(most : Int), 256, 3] (by intro s hs; simp at hs; omega) (by simp)
  obtain ⟨h0, h1, h2, rfl⟩ : ∃ h0 h1 h2, hd = [h0, h1, h2] := by
    have := dr.len
    match hd, this with
    | [a, b, c], _ => exact ⟨a, b, c, rfl⟩
  have b0 := dr.lo 0 (by simp)
  have b1 := dr.hi 0 (by simp) (by simp)
  simp at b0 b1
  obtain ⟨us, j5, j6, j7, j8, e1, hl, hu⟩ := tk_out ns at0 most [h0, h1, h2] (1 + h0).toNat (by omega) none
  obtain ⟨ts, j5', e2, ha⟩ := tk_tgt (some (.sc ns)) (some (.d (natI at0))) (some (.d (natI most))) h0 h1 h2 us (by omega) j5 j6 j7 j8
  have s3 : sSet 3 (cA (fun rs => if rs.length = 3 then F__law_draw (rs.map RV.arg) else .no) (aC (cV 0) (aC (cV 1) (aC (cA gList (aC (cV 2) (aC (cC (.int 256)) (aC (cC (.int 3)) aN)))) aN)))) [some (.sc ns), some (.d (natI at0)), some (.d (natI most)), none, none, none, none, none, none, none]
      = .nx [some (.sc ns), some (.d (natI at0)), some (.d (natI most)), some (.ol ([h0, h1, h2].map .int)), none, none, none, none, none, none] := by
    have : F__law_draw [.sc ns, .d (natI at0), .d (.list [natI most, .int 256, .int 3])] = .ok (.ol ([h0, h1, h2].map .int)) := hds
    simp [e_V, this]
  have s4 : sSet 4 (cA gList aN) [some (.sc ns), some (.d (natI at0)), some (.d (natI most)), some (.ol ([h0, h1, h2].map .int)), none, none, none, none, none, none] = .nx [some (.sc ns), some (.d (natI at0)), some (.d (natI most)), some (.ol ([h0, h1, h2].map .int)), some (.ol []), none, none, none, none, none] := by simp
  have r1 : iR gR1 (aC (c2 gAdd (cC (.int 1)) (c2 gIx (cV 3) (cC (.int 0)))) aN) [some (.sc ns), some (.d (natI at0)), some (.d (natI most)), some (.ol ([h0, h1, h2].map .int)), some (.ol []), none, none, none, none, none] = .ok ((List.range (1 + h0).toNat).map natI) := by
    have := e_R1 (a := 1 + h0) (by omega)
    rw [rng_nat] at this
    simp [e_V, this]
  have s9 : sSet 9 (cA gList aN) [some (.sc ns), some (.d (natI at0)), some (.d (natI most)), some (.ol ([h0, h1, h2].map .int)), some (.ol (encU us)), j5, j6, j7, j8, none] = .nx [some (.sc ns), some (.d (natI at0)), some (.d (natI most)), some (.ol ([h0, h1, h2].map .int)), some (.ol (encU us)), j5, j6, j7, j8, some (.ol [])] := by simp
  have r2 : iR gR1 (aC (cA gLen (aC (cV 4) aN)) aN) [some (.sc ns), some (.d (natI at0)), some (.d (natI most)), some (.ol ([h0, h1, h2].map .int)), some (.ol (encU us)), j5, j6, j7, j8, some (.ol [])] = .ok ((List.range us.length).map natI) := by
    have := e_R1n (n := us.length) (by omega)
    rw [rng_nat] at this
    simp [e_V, encU_len, this]
  refine ⟨us, if ts = [] then [(us.length : Int) - 1] else ts, ?_, ⟨by omega, by omega, hu, ?_, ?_⟩⟩
  · show (sSeq _ _ ([some (.sc ns), some (.d (natI at0)), some (.d (natI most))] ++ List.replicate 7 none)).fin = _
    show (sSeq _ _ [some (.sc ns), some (.d (natI at0)), some (.d (natI most)), none, none, none, none, none, none, none]).fin = _
    rw [e_seq, s3, Out.then_nx, e_seq, s4, Out.then_nx, e_seq, e_for, r1, Rs.out_ok, e1, Out.then_nx, e_seq, s9, Out.then_nx, e_seq, e_for, r2, Rs.out_ok, e2, Out.then_nx]
    cases ts with
    | nil => simp [e_V, encU_len, encT]
    | cons t ts =>
      have : ¬ ((ts.length : Int) + 1 = 0) := by omega
      simp [e_V, encU_len, encT, this]
  · split
    · exact ⟨List.pairwise_singleton _ _, by simp; omega, by simp; omega⟩
    · exact ha
  · split <;> simp [*]
/-! ### texts: a letter and a number -/
def numS (n : Nat) : Str := Str.ofString (toString (n : Int))
def lx (c : Str) (n : Nat) : Str := c ++ numS n
theorem num_l (n : Nat) : (numS n).cps.toList = numL n := tl_num n
theorem num_len {n : Nat} (h : n < 100000) : (numS n).length ≤ 5 := by
  have e : (numS n).length = (numL n).length := by rw [← num_l n]; rfl
  rw [e]
  exact numL_len (by decide) (by simpa using h)
theorem log_ok (n : Nat) (h : n < 100000) : ((n : Int)).natAbs.log2 < 1920 := by
  have h1 : ((n : Int)).natAbs = n := rfl
  rw [h1]
  by_cases h0 : n = 0
  · subst h0; decide
  · exact (Nat.log2_lt h0).mpr (Nat.lt_of_lt_of_le h (by decide))
theorem str_ok {n : Nat} (h : n < 100000) : gStr [.d (.int n)] = .ok (.d (.str (numS n))) := if_pos (log_ok n h)
theorem int_ok {n : Nat} (h : n < 100000) : gInt [.d (.str (numS n))] = .ok (.d (.int n)) := by
  have e : PySem.intText? (numS n) = some (n : Int) := int_num (Nat.le_trans (numL_len (k := 5) (by decide) (by simpa using h)) (by decide))
  show (rsO (PySem.intText? (numS n))).bind _ = _
  rw [e]
  have := num_len h
  simp only [rsO_some, Rs.bind_ok]
  rw [if_pos (by omega)]
  rfl
theorem app_l (a b : Str) : (a ++ b).cps.toList = a.cps.toList ++ b.cps.toList := by
  show (a.cps ++ b.cps).toList = _
  simp
theorem str_ext {a b : Str} (h : a.cps.toList = b.cps.toList) : a = b := by
  cases a; cases b
  congr 1
  exact Array.toList_inj.mp h
/-- the letters -/
structure Letter (c : Str) (k : Nat) : Prop where
  l : c.cps.toList = [k]
theorem let_x : Letter "x" 120 := ⟨by decide +kernel⟩
theorem let_r : Letter "r" 114 := ⟨by decide +kernel⟩
theorem let_s : Letter "s" 115 := ⟨by decide +kernel⟩
theorem Letter.eq {c : Str} {k : Nat} (h : Letter c k) : c = ⟨#[k]⟩ := str_ext h.l
theorem Letter.len {c : Str} {k : Nat} (h : Letter c k) : c.length = 1 := by
  have : c.length = c.cps.toList.length := by show c.cps.size = _; simp
  rw [this, h.l]; rfl
theorem lx_l {c : Str} {k : Nat} (h : Letter c k) (n : Nat) : (lx c n).cps.toList = k :: numL n := by
  unfold lx
  rw [app_l, h.l, num_l]; rfl
theorem lx_len {c : Str} {k : Nat} (h : Letter c k) {n : Nat} (hn : n < 100000) : (lx c n).length ≤ 6 := by
  have e : (lx c n).length = (lx c n).cps.toList.length := by show (lx c n).cps.size = _; simp
  have := numL_len (n := n) (k := 5) (by decide) (by simpa using hn)
  rw [e, lx_l h]
  simp
  exact this
theorem lx_head {c : Str} {k : Nat} (h : Letter c k) {n : Nat} (hn : n < 100000) : gIx (.d (.str (lx c n))) (.d (.int 0)) = .ok (.d (.str c)) := by
  have := lx_len h hn
  rw [e_ixS, if_pos (by omega), lx_l h, atI_zero]
  rw [h.eq]; rfl
theorem num_head {n : Nat} (hn : n < 100000) : ∃ d, 48 ≤ d ∧ d ≤ 57 ∧ gIx (.d (.str (numS n))) (.d (.int 0)) = .ok (.d (.str ⟨#[d]⟩)) := by
  have h1 := num_len hn
  have h2 := numL_digits n
  have h3 := numL_ne n
  rw [e_ixS, if_pos (by omega), num_l]
  cases e : numL n with
  | nil => exact absurd e h3
  | cons d ds =>
    have := h2 d (by rw [e]; exact List.mem_cons_self)
    exact ⟨d, by omega, by omega, by rw [atI_zero]; rfl⟩
theorem one_ne {a b : Nat} (h : a ≠ b) : (⟨#[a]⟩ : Str) ≠ ⟨#[b]⟩ := fun e => h (by injection e with e; simpa using e)
theorem lx_tail {c : Str} {k : Nat} (h : Letter c k) {n : Nat} (hn : n < 100000) : gSl (.d (.str (lx c n))) (some 1) none = .ok (.d (.str (numS n))) := by
  have hl := lx_len h hn
  have e : (lx c n).length = (numL n).length + 1 := by
    have : (lx c n).length = (lx c n).cps.toList.length := by show (lx c n).cps.size = _; simp
    rw [this, lx_l h]; rfl
  show (if (lx c n).length ≤ 1000000 then Rs.ok (RV.d (.str (cutS (lx c n) (some 1) none))) else .no) = _
  rw [if_pos (by omega)]
  congr 3
  apply str_ext
  unfold cutS
  have e1 : HT.sIx (lx c n).length 0 (some 1) = 1 := by
    rw [show (1 : Int) = ((1 : Nat) : Int) from rfl, HT.sIx_nat]; omega
  rw [e1, HT.sIx_none, e, lx_l h, num_l]
  simp
@[simp] theorem eqv_str (a b : Str) : PyData.eqv (.str a) (.str b) = decide (a = b) := by
  rw [PyData.eqv]
  by_cases h : a = b <;> simp [h]
/-! ### shapes at any depth -/
structure Nice (k : Nat) (d : PyData) : Prop where
  lay : d.canLay0 = true
  dep : d.depth ≤ k
theorem nice_all {k : Nat} : ∀ {ds : List PyData}, (∀ d ∈ ds, Nice k d) → PyData.canLayAll0 ds = true ∧ PyData.depthAll ds ≤ k
  | [], _ => ⟨rfl, Nat.zero_le _⟩
  | d :: ds, h => by
    obtain ⟨h1, h2⟩ := nice_all fun x hx => h x (List.mem_cons_of_mem _ hx)
    have h3 := h d List.mem_cons_self
    refine ⟨?_, ?_⟩
    · show (PyData.canLay0 d && PyData.canLayAll0 ds) = true
      rw [h3.lay, h1]; rfl
    · show max d.depth (PyData.depthAll ds) ≤ k
      have := h3.dep
      omega
theorem Nice.tup {k : Nat} {ds : List PyData} (h : ∀ d ∈ ds, Nice k d) : Nice (k + 1) (.tuple ds) := ⟨(nice_all h).1, Nat.succ_le_succ (nice_all h).2⟩
theorem Nice.lst {k : Nat} {ds : List PyData} (h : ∀ d ∈ ds, Nice k d) : Nice (k + 1) (.list ds) := ⟨(nice_all h).1, Nat.succ_le_succ (nice_all h).2⟩
theorem Nice.int (k : Nat) (i : Int) : Nice k (.int i) := ⟨rfl, Nat.zero_le _⟩
theorem Nice.bool (k : Nat) (i : Bool) : Nice k (.bool i) := ⟨rfl, Nat.zero_le _⟩
theorem Nice.none (k : Nat) : Nice k .none := ⟨rfl, Nat.zero_le _⟩
theorem Nice.str (k : Nat) {s : Str} (h : PyData.strOk s = true) : Nice k (.str s) := ⟨h, Nat.zero_le _⟩
theorem Nice.shaped {k : Nat} {d : PyData} (h : Nice k d) (hk : k ≤ 64) : SeqAt.shaped d = true := by
  unfold SeqAt.shaped
  rw [h.lay, decide_eq_true (Nat.le_trans h.dep hk)]
  rfl
theorem Nice.refl {k : Nat} {d : PyData} (h : Nice k d) : PyData.eqv d d = true := SeqAt.eqv_refl d h.lay
theorem ok_of {s : Str} (h : ∀ c ∈ s.cps.toList, c < 200) : PyData.strOk s = true := by
  unfold PyData.strOk
  rw [Array.all_eq_true']
  intro c hc
  have := h c (by simpa using hc)
  simp
  omega
theorem num_strOk (n : Nat) : PyData.strOk (numS n) = true := ok_of fun c hc => by
  rw [num_l] at hc
  have := numL_digits n c hc
  omega
theorem lx_strOk {c : Str} {k : Nat} (h : Letter c k) (hk : k < 200) (n : Nat) : PyData.strOk (lx c n) = true := ok_of fun d hd => by
  rw [lx_l h] at hd
  rcases List.mem_cons.mp hd with rfl | hd
  · exact hk
  · have := numL_digits n d hd
    omega
theorem turns (ns : List Int) (h : ns.length ≤ 63) (a b : Int) (hb : 0 < b) (hb2 : b < 1000) (ha0 : 0 ≤ a) (ha : a ≤ 1000) (env : VEnv) (h0 : env[0]? = some (some (.sc ns))) : ∃ m : Nat, (m : Int) ≤ a ∧ (iR gR1 (aC (cA gMin2 (aC (cC (.int a)) (aC (c2 gAdd (cC (.int 1)) (c2 gDiv (cA gLen (aC (cV 0) aN)) (cC (.int b)))) aN))) aN)) env = .ok ((List.range m).map natI) := by
  have hd : 0 ≤ (ns.length : Int) / b := Int.ediv_nonneg (by omega) (by omega)
  obtain ⟨q, hq⟩ : ∃ q, q = (if 1 + (ns.length : Int) / b < a then 1 + (ns.length : Int) / b else a) := ⟨_, rfl⟩
  have hm : q.natAbs ≤ 1000000 ∧ 0 ≤ q ∧ q ≤ a := by rw [hq]; split <;> omega
  refine ⟨q.toNat, by omega, ?_⟩
  have := e_R1 hm.1
  rw [rng_nat] at this
  have hbb : 0 < b ∧ b.natAbs < 1073741824 := by omega
  simp only [e_iR, e_aC, e_cA, e_aN, e_c2, e_V, h0, Rs.bind_ok, e_cC, e_bor4, e_lenSc, e_div, if_pos hbb, e_addI, e_min2, ← hq, this]
/-! ### configurations -/
def canM (us : List (List Int)) (h : List Int) (s : Int) : Bool := (usAt us s).all fun u => decide (u ∈ h)
def movM (h : List Int) (s : Int) : List Int := if s ∈ h then h.filter fun x => decide (x ≠ s) else isort (h ++ [s])
theorem ne_int (a b : Int) : (!decide (a = b)) = decide (a ≠ b) := by simp
theorem lc_ints {env : VEnv} {t : VEnv → Rs Bool} (i : Nat) (xs : List Int) (p : Int → Bool) (hi : i < env.length) (h : ∀ x ∈ xs, t (env.set i (some (.d (.int x)))) = .ok (p x)) : lcF (.nm i) t (cV i) env (xs.map .int) = .ok ((xs.filter p).map .int) := by
  refine lcF_map PyData.int p PyData.int xs fun x hx => ⟨env.set i (some (.d (.int x))), by rw [e_tgnm, if_pos hi], h x hx, fun _ => ⟨.d (.int x), ?_, rfl⟩⟩
  rw [e_V, List.getElem?_set_self hi]
  rfl
theorem lc_nats {env : VEnv} {t : VEnv → Rs Bool} (i : Nat) (xs : List Nat) (p : Nat → Bool) (hi : i < env.length) (h : ∀ x ∈ xs, t (env.set i (some (.d (.int (x : Int))))) = .ok (p x)) : lcF (.nm i) t (cV i) env (xs.map natI) = .ok ((xs.filter p).map natI) := by
  refine lcF_map natI p natI xs fun x hx => ⟨env.set i (some (.d (.int x))), by rw [e_tgnm, if_pos hi]; rfl, h x hx, fun _ => ⟨.d (.int x), ?_, rfl⟩⟩
  rw [e_V, List.getElem?_set_self hi]
  rfl
def tupD (r : List Int) : PyData := .tuple (r.map .int)
theorem movM_len (h : List Int) (s : Int) : (movM h s).length ≤ h.length + 1 := by
  unfold movM
  split
  · exact Nat.le_succ_of_le (List.length_filter_le _ _)
  · rw [(isort_perm _).length_eq]; simp
def behindM (h r : List Int) : List Int := r.foldl movM h
theorem behindM_len : ∀ (r h : List Int), (behindM h r).length ≤ h.length + r.length
  | [], h => Nat.le_refl _
  | x :: r, h => by
    have := behindM_len r (movM h x)
    have := movM_len h x
    show (behindM (movM h x) r).length ≤ h.length + (r.length + 1)
    omega
theorem moved_ok (h : List Int) (s : Int) (hl : h.length ≤ 1000) : F_moved [.d (.tuple (h.map .int)), .d (.int s)] = .ok (.d (.tuple ((movM h s).map .int))) := by
  show (sSeq _ _ [some (.d (.tuple (h.map .int))), some (.d (.int s)), none]).fin = _
  have hz : h.length ≤ 1000000 := by omega
  have hz2 : h.length ≤ 999999 := by omega
  have hc : lcF (.nm 2) (cB (c2 gNe (cV 2) (cV 1))) (cV 2) [some (.d (.tuple (h.map .int))), some (.d (.int s)), none] (h.map .int) = .ok ((h.filter fun x => decide (x ≠ s)).map .int) :=
    lc_ints 2 h _ (by simp) fun x _ => by
      simp only [List.set_cons_succ, List.set_cons_zero]
      simp only [e_nil, e_seq, e_fz, e_bk, e_ct, e_ret, e_retN, e_drop, e_set, e_if, e_for, e_cC, e_c2, e_c1, e_cA, e_aN, e_aC, e_cB, e_asB, e_bNot, e_bAnd, e_bOr, e_vAnd, e_vOr, e_vNot, e_vIf, e_bYes, e_iL, e_iT, e_iLb, e_iR, e_gL1, e_gL2, e_gL3, e_gT, e_gLb1, e_gLb2, e_gLb3, e_gLb4, e_nb1, e_nb2, e_bor1, e_bor2, e_bor3, e_bor4, e_arg1, e_arg2, e_arg3, e_arg4, e_putd, e_puto, e_toD1, e_toD2, e_allD0, e_allD1, e_allD2, e_gTupl, e_gList, e_tgnm, e_tgtp, e_tg0, e_tg1, e_sq1, e_sq2, e_sq3, e_sq4, e_sq5, e_qv2, e_qv3, e_qv4, e_qv5, e_data1, e_data2, e_data3, e_okI, e_okB, e_i2, e_sub, e_mul, e_mod, e_div, e_pow, e_lt, e_le, e_gt, e_ge, e_neg, e_addI, e_addS, e_addT, e_addL1, e_addL2, e_addL3, e_addL4, e_addL5, e_addL6, e_addL7, e_addL8, e_addL9, e_eq, e_ne, e_in, e_notIn, e_inT, e_inT2, e_inL1, e_inL2, e_inL3, e_is, e_isNot, e_isN1, e_isN2, e_isN3, e_isN4, e_isN5, e_isN6, e_isN7, e_ixT, e_ixL, e_ixO, e_ixB, e_ixSc, e_lenT, e_lenL, e_lenO, e_lenB, e_lenSc, e_lenS, e_tupT, e_tupL, e_tupO, e_tupB, e_lisT, e_lisL, e_lisO, e_lisB, e_min2, e_max2, e_any, e_all, e_sum, e_sorted, e_rev, e_sl, e_oN, e_isi, e_lc, e_wipe0, e_wipe1, e_iA, e_iAb, e_gAq1, e_gAq2, e_gAq3, e_gAqb1, e_gAqb2, e_gAqb3, e_gAqb4, e_no, e_cCh, e_cChI, e_aug, e_decT, e_decF, e_cDispS, e_cDT, e_cDK, e_cDisp1, e_storeA, e_stR1, e_stR2, e_stR3, e_sd1, e_keyD1, e_keyD2, e_keyTD, e_intsD, e_intsD0, e_borT, e_borT2, e_borK, e_borK2, e_argT, e_argT2, e_argK, e_argK2, e_nbT, e_nbK, e_putT, e_putK, e_gAt1, e_gAt2, e_gAt3, e_gAt4, e_gGetDK, e_gGetDT, e_gIxD, e_gInD, e_gNotInD, e_cGet1, e_cGet2, e_dk1, e_dk2, e_dk3, e_dk4, e_dt1, e_dt2, e_del, atI_zero, e_at1, e_at2, e_at3, e_at4, e_at5, e_at6, e_at7, e_at8, e_at9, e_atm, e_V, e_retV, e_unp, e_app, e_store, e_fzE, oS, rsO_some, Rs.bind_ok, Rs.bind_no, Rs.out_ok, Out.then_nx, Out.then_rt, Out.then_ct, Out.then_bk, fin_rt, fin_nx, List.getElem?_cons_zero, List.getElem?_cons_succ, List.set_cons_succ, List.set_cons_zero, List.length_cons, List.length_nil, Nat.reduceAdd, Nat.reduceLT, Nat.reduceLeDiff, Nat.reduceEqDiff, if_true, if_false, Bool.false_eq_true, Bool.not_true, Bool.not_false, and_self, true_and, and_true, List.map_cons, List.map_nil, Option.map_some, sh_int, sh_bool, sh_none, sh_tup, sh_lst, eqv_int, reduceIte, Option.bind_some, Option.bind_none, kitB_ll, kitB_lt, kitB_tt, kitB_tl, kitB_ii, tyD_list, tyD_int, Bool.true_and, Bool.false_and, Bool.and_true, Bool.and_false, Bool.or_true, Bool.true_or, Bool.false_or, Bool.or_false, Bool.and_self, Bool.or_self, e_cAK, List.append_nil, List.nil_append, List.cons_append, e_andB, e_orB, e_andR, e_orR, tyD_tuple, eqv_bool, eqv_none, tyD_bool, tyD_str, tyD_none, kitB_bb, kitB_nb, kitB_bi, kitB_ib, kitB_nl, kitB_nt, beq_self_eq_true, ne_int]
  have hm : (h.map PyData.int ++ [.int s]) = (h ++ [s]).map PyData.int := by simp
  by_cases hs : s ∈ h
  · have : movM h s = h.filter fun x => decide (x ≠ s) := if_pos hs
    rw [this]
    simp only [e_nil, e_seq, e_fz, e_bk, e_ct, e_ret, e_retN, e_drop, e_set, e_if, e_for, e_cC, e_c2, e_c1, e_cA, e_aN, e_aC, e_cB, e_asB, e_bNot, e_bAnd, e_bOr, e_vAnd, e_vOr, e_vNot, e_vIf, e_bYes, e_iL, e_iT, e_iLb, e_iR, e_gL1, e_gL2, e_gL3, e_gT, e_gLb1, e_gLb2, e_gLb3, e_gLb4, e_nb1, e_nb2, e_bor1, e_bor2, e_bor3, e_bor4, e_arg1, e_arg2, e_arg3, e_arg4, e_putd, e_puto, e_toD1, e_toD2, e_allD0, e_allD1, e_allD2, e_gTupl, e_gList, e_tgnm, e_tgtp, e_tg0, e_tg1, e_sq1, e_sq2, e_sq3, e_sq4, e_sq5, e_qv2, e_qv3, e_qv4, e_qv5, e_data1, e_data2, e_data3, e_okI, e_okB, e_i2, e_sub, e_mul, e_mod, e_div, e_pow, e_lt, e_le, e_gt, e_ge, e_neg, e_addI, e_addS, e_addT, e_addL1, e_addL2, e_addL3, e_addL4, e_addL5, e_addL6, e_addL7, e_addL8, e_addL9, e_eq, e_ne, e_in, e_notIn, e_inT, e_inT2, e_inL1, e_inL2, e_inL3, e_is, e_isNot, e_isN1, e_isN2, e_isN3, e_isN4, e_isN5, e_isN6, e_isN7, e_ixT, e_ixL, e_ixO, e_ixB, e_ixSc, e_lenT, e_lenL, e_lenO, e_lenB, e_lenSc, e_lenS, e_tupT, e_tupL, e_tupO, e_tupB, e_lisT, e_lisL, e_lisO, e_lisB, e_min2, e_max2, e_any, e_all, e_sum, e_sorted, e_rev, e_sl, e_oN, e_isi, e_lc, e_wipe0, e_wipe1, e_iA, e_iAb, e_gAq1, e_gAq2, e_gAq3, e_gAqb1, e_gAqb2, e_gAqb3, e_gAqb4, e_no, e_cCh, e_cChI, e_aug, e_decT, e_decF, e_cDispS, e_cDT, e_cDK, e_cDisp1, e_storeA, e_stR1, e_stR2, e_stR3, e_sd1, e_keyD1, e_keyD2, e_keyTD, e_intsD, e_intsD0, e_borT, e_borT2, e_borK, e_borK2, e_argT, e_argT2, e_argK, e_argK2, e_nbT, e_nbK, e_putT, e_putK, e_gAt1, e_gAt2, e_gAt3, e_gAt4, e_gGetDK, e_gGetDT, e_gIxD, e_gInD, e_gNotInD, e_cGet1, e_cGet2, e_dk1, e_dk2, e_dk3, e_dk4, e_dt1, e_dt2, e_del, atI_zero, e_at1, e_at2, e_at3, e_at4, e_at5, e_at6, e_at7, e_at8, e_at9, e_atm, e_V, e_retV, e_unp, e_app, e_store, e_fzE, oS, rsO_some, Rs.bind_ok, Rs.bind_no, Rs.out_ok, Out.then_nx, Out.then_rt, Out.then_ct, Out.then_bk, fin_rt, fin_nx, List.getElem?_cons_zero, List.getElem?_cons_succ, List.set_cons_succ, List.set_cons_zero, List.length_cons, List.length_nil, Nat.reduceAdd, Nat.reduceLT, Nat.reduceLeDiff, Nat.reduceEqDiff, if_true, if_false, Bool.false_eq_true, Bool.not_true, Bool.not_false, and_self, true_and, and_true, List.map_cons, List.map_nil, Option.map_some, sh_int, sh_bool, sh_none, sh_tup, sh_lst, eqv_int, reduceIte, Option.bind_some, Option.bind_none, kitB_ll, kitB_lt, kitB_tt, kitB_tl, kitB_ii, tyD_list, tyD_int, Bool.true_and, Bool.false_and, Bool.and_true, Bool.and_false, Bool.or_true, Bool.true_or, Bool.false_or, Bool.or_false, Bool.and_self, Bool.or_self, e_cAK, List.append_nil, List.nil_append, List.cons_append, e_andB, e_orB, e_andR, e_orR, tyD_tuple, eqv_bool, eqv_none, tyD_bool, tyD_str, tyD_none, kitB_bb, kitB_nb, kitB_bi, kitB_ib, kitB_nl, kitB_nt, beq_self_eq_true, anyI, decide_eq_true hs, List.length_map, if_pos hz, hc]
  · have : movM h s = isort (h ++ [s]) := if_neg hs
    rw [this]
    simp only [e_nil, e_seq, e_fz, e_bk, e_ct, e_ret, e_retN, e_drop, e_set, e_if, e_for, e_cC, e_c2, e_c1, e_cA, e_aN, e_aC, e_cB, e_asB, e_bNot, e_bAnd, e_bOr, e_vAnd, e_vOr, e_vNot, e_vIf, e_bYes, e_iL, e_iT, e_iLb, e_iR, e_gL1, e_gL2, e_gL3, e_gT, e_gLb1, e_gLb2, e_gLb3, e_gLb4, e_nb1, e_nb2, e_bor1, e_bor2, e_bor3, e_bor4, e_arg1, e_arg2, e_arg3, e_arg4, e_putd, e_puto, e_toD1, e_toD2, e_allD0, e_allD1, e_allD2, e_gTupl, e_gList, e_tgnm, e_tgtp, e_tg0, e_tg1, e_sq1, e_sq2, e_sq3, e_sq4, e_sq5, e_qv2, e_qv3, e_qv4, e_qv5, e_data1, e_data2, e_data3, e_okI, e_okB, e_i2, e_sub, e_mul, e_mod, e_div, e_pow, e_lt, e_le, e_gt, e_ge, e_neg, e_addI, e_addS, e_addT, e_addL1, e_addL2, e_addL3, e_addL4, e_addL5, e_addL6, e_addL7, e_addL8, e_addL9, e_eq, e_ne, e_in, e_notIn, e_inT, e_inT2, e_inL1, e_inL2, e_inL3, e_is, e_isNot, e_isN1, e_isN2, e_isN3, e_isN4, e_isN5, e_isN6, e_isN7, e_ixT, e_ixL, e_ixO, e_ixB, e_ixSc, e_lenT, e_lenL, e_lenO, e_lenB, e_lenSc, e_lenS, e_tupT, e_tupL, e_tupO, e_tupB, e_lisT, e_lisL, e_lisO, e_lisB, e_min2, e_max2, e_any, e_all, e_sum, e_sorted, e_rev, e_sl, e_oN, e_isi, e_lc, e_wipe0, e_wipe1, e_iA, e_iAb, e_gAq1, e_gAq2, e_gAq3, e_gAqb1, e_gAqb2, e_gAqb3, e_gAqb4, e_no, e_cCh, e_cChI, e_aug, e_decT, e_decF, e_cDispS, e_cDT, e_cDK, e_cDisp1, e_storeA, e_stR1, e_stR2, e_stR3, e_sd1, e_keyD1, e_keyD2, e_keyTD, e_intsD, e_intsD0, e_borT, e_borT2, e_borK, e_borK2, e_argT, e_argT2, e_argK, e_argK2, e_nbT, e_nbK, e_putT, e_putK, e_gAt1, e_gAt2, e_gAt3, e_gAt4, e_gGetDK, e_gGetDT, e_gIxD, e_gInD, e_gNotInD, e_cGet1, e_cGet2, e_dk1, e_dk2, e_dk3, e_dk4, e_dt1, e_dt2, e_del, atI_zero, e_at1, e_at2, e_at3, e_at4, e_at5, e_at6, e_at7, e_at8, e_at9, e_atm, e_V, e_retV, e_unp, e_app, e_store, e_fzE, oS, rsO_some, Rs.bind_ok, Rs.bind_no, Rs.out_ok, Out.then_nx, Out.then_rt, Out.then_ct, Out.then_bk, fin_rt, fin_nx, List.getElem?_cons_zero, List.getElem?_cons_succ, List.set_cons_succ, List.set_cons_zero, List.length_cons, List.length_nil, Nat.reduceAdd, Nat.reduceLT, Nat.reduceLeDiff, Nat.reduceEqDiff, if_true, if_false, Bool.false_eq_true, Bool.not_true, Bool.not_false, and_self, true_and, and_true, List.map_cons, List.map_nil, Option.map_some, sh_int, sh_bool, sh_none, sh_tup, sh_lst, eqv_int, reduceIte, Option.bind_some, Option.bind_none, kitB_ll, kitB_lt, kitB_tt, kitB_tl, kitB_ii, tyD_list, tyD_int, Bool.true_and, Bool.false_and, Bool.and_true, Bool.and_false, Bool.or_true, Bool.true_or, Bool.false_or, Bool.or_false, Bool.and_self, Bool.or_self, e_cAK, List.append_nil, List.nil_append, List.cons_append, e_andB, e_orB, e_andR, e_orR, tyD_tuple, eqv_bool, eqv_none, tyD_bool, tyD_str, tyD_none, kitB_bb, kitB_nb, kitB_bi, kitB_ib, kitB_nl, kitB_nt, beq_self_eq_true, anyI, decide_eq_false hs, List.length_map, if_pos hz2, hm, intsD_map]
theorem possible_ok (us : List (List Int)) (ts h : List Int) (s : Int) (h0 : 0 ≤ s) (h1 : s < us.length) : F_is_possible [.d (encT us ts), .d (.tuple (h.map .int)), .d (.int s)] = .ok (.d (.bool (canM us h s))) := by
  have ha := encU_at us h0 h1
  have hs : gIx (.d (encT us ts)) (.d (.int 0)) = .ok (.d (.tuple (encU us))) := rfl
  have main : ∀ (xs : List Int) (e3 : Option RV), ∃ e3' : Option RV, loopF (.nm 3) L0_is_possible (xs.map .int) [some (.d (encT us ts)), some (.d (.tuple (h.map .int))), some (.d (.int s)), e3] = if (xs.all fun u => decide (u ∈ h)) = true then .nx [some (.d (encT us ts)), some (.d (.tuple (h.map .int))), some (.d (.int s)), e3'] else .rt (.d (.bool false)) := by
    intro xs
    induction xs with
    | nil => exact fun e3 => ⟨e3, rfl⟩
    | cons x xs ih =>
      intro e3
      obtain ⟨e3', ih⟩ := ih (some (.d (.int x)))
      refine ⟨e3', ?_⟩
      rw [List.map_cons, loopF_cons]
      simp only [e_nil, e_seq, e_fz, e_bk, e_ct, e_ret, e_retN, e_drop, e_set, e_if, e_for, e_cC, e_c2, e_c1, e_cA, e_aN, e_aC, e_cB, e_asB, e_bNot, e_bAnd, e_bOr, e_vAnd, e_vOr, e_vNot, e_vIf, e_bYes, e_iL, e_iT, e_iLb, e_iR, e_gL1, e_gL2, e_gL3, e_gT, e_gLb1, e_gLb2, e_gLb3, e_gLb4, e_nb1, e_nb2, e_bor1, e_bor2, e_bor3, e_bor4, e_arg1, e_arg2, e_arg3, e_arg4, e_putd, e_puto, e_toD1, e_toD2, e_allD0, e_allD1, e_allD2, e_gTupl, e_gList, e_tgnm, e_tgtp, e_tg0, e_tg1, e_sq1, e_sq2, e_sq3, e_sq4, e_sq5, e_qv2, e_qv3, e_qv4, e_qv5, e_data1, e_data2, e_data3, e_okI, e_okB, e_i2, e_sub, e_mul, e_mod, e_div, e_pow, e_lt, e_le, e_gt, e_ge, e_neg, e_addI, e_addS, e_addT, e_addL1, e_addL2, e_addL3, e_addL4, e_addL5, e_addL6, e_addL7, e_addL8, e_addL9, e_eq, e_ne, e_in, e_notIn, e_inT, e_inT2, e_inL1, e_inL2, e_inL3, e_is, e_isNot, e_isN1, e_isN2, e_isN3, e_isN4, e_isN5, e_isN6, e_isN7, e_ixT, e_ixL, e_ixO, e_ixB, e_ixSc, e_lenT, e_lenL, e_lenO, e_lenB, e_lenSc, e_lenS, e_tupT, e_tupL, e_tupO, e_tupB, e_lisT, e_lisL, e_lisO, e_lisB, e_min2, e_max2, e_any, e_all, e_sum, e_sorted, e_rev, e_sl, e_oN, e_isi, e_lc, e_wipe0, e_wipe1, e_iA, e_iAb, e_gAq1, e_gAq2, e_gAq3, e_gAqb1, e_gAqb2, e_gAqb3, e_gAqb4, e_no, e_cCh, e_cChI, e_aug, e_decT, e_decF, e_cDispS, e_cDT, e_cDK, e_cDisp1, e_storeA, e_stR1, e_stR2, e_stR3, e_sd1, e_keyD1, e_keyD2, e_keyTD, e_intsD, e_intsD0, e_borT, e_borT2, e_borK, e_borK2, e_argT, e_argT2, e_argK, e_argK2, e_nbT, e_nbK, e_putT, e_putK, e_gAt1, e_gAt2, e_gAt3, e_gAt4, e_gGetDK, e_gGetDT, e_gIxD, e_gInD, e_gNotInD, e_cGet1, e_cGet2, e_dk1, e_dk2, e_dk3, e_dk4, e_dt1, e_dt2, e_del, atI_zero, e_at1, e_at2, e_at3, e_at4, e_at5, e_at6, e_at7, e_at8, e_at9, e_atm, e_V, e_retV, e_unp, e_app, e_store, e_fzE, oS, rsO_some, Rs.bind_ok, Rs.bind_no, Rs.out_ok, Out.then_nx, Out.then_rt, Out.then_ct, Out.then_bk, fin_rt, fin_nx, List.getElem?_cons_zero, List.getElem?_cons_succ, List.set_cons_succ, List.set_cons_zero, List.length_cons, List.length_nil, Nat.reduceAdd, Nat.reduceLT, Nat.reduceLeDiff, Nat.reduceEqDiff, if_true, if_false, Bool.false_eq_true, Bool.not_true, Bool.not_false, and_self, true_and, and_true, List.map_cons, List.map_nil, Option.map_some, sh_int, sh_bool, sh_none, sh_tup, sh_lst, eqv_int, reduceIte, Option.bind_some, Option.bind_none, kitB_ll, kitB_lt, kitB_tt, kitB_tl, kitB_ii, tyD_list, tyD_int, Bool.true_and, Bool.false_and, Bool.and_true, Bool.and_false, Bool.or_true, Bool.true_or, Bool.false_or, Bool.or_false, Bool.and_self, Bool.or_self, e_cAK, List.append_nil, List.nil_append, List.cons_append, e_andB, e_orB, e_andR, e_orR, tyD_tuple, eqv_bool, eqv_none, tyD_bool, tyD_str, tyD_none, kitB_bb, kitB_nb, kitB_bi, kitB_ib, kitB_nl, kitB_nt, beq_self_eq_true]
      have e : L0_is_possible [some (.d (encT us ts)), some (.d (.tuple (h.map .int))), some (.d (.int s)), some (.d (.int x))] = if x ∈ h then .nx [some (.d (encT us ts)), some (.d (.tuple (h.map .int))), some (.d (.int s)), some (.d (.int x))] else .rt (.d (.bool false)) := by
        unfold L0_is_possible
        by_cases hx : x ∈ h
        · simp only [e_nil, e_seq, e_fz, e_bk, e_ct, e_ret, e_retN, e_drop, e_set, e_if, e_for, e_cC, e_c2, e_c1, e_cA, e_aN, e_aC, e_cB, e_asB, e_bNot, e_bAnd, e_bOr, e_vAnd, e_vOr, e_vNot, e_vIf, e_bYes, e_iL, e_iT, e_iLb, e_iR, e_gL1, e_gL2, e_gL3, e_gT, e_gLb1, e_gLb2, e_gLb3, e_gLb4, e_nb1, e_nb2, e_bor1, e_bor2, e_bor3, e_bor4, e_arg1, e_arg2, e_arg3, e_arg4, e_putd, e_puto, e_toD1, e_toD2, e_allD0, e_allD1, e_allD2, e_gTupl, e_gList, e_tgnm, e_tgtp, e_tg0, e_tg1, e_sq1, e_sq2, e_sq3, e_sq4, e_sq5, e_qv2, e_qv3, e_qv4, e_qv5, e_data1, e_data2, e_data3, e_okI, e_okB, e_i2, e_sub, e_mul, e_mod, e_div, e_pow, e_lt, e_le, e_gt, e_ge, e_neg, e_addI, e_addS, e_addT, e_addL1, e_addL2, e_addL3, e_addL4, e_addL5, e_addL6, e_addL7, e_addL8, e_addL9, e_eq, e_ne, e_in, e_notIn, e_inT, e_inT2, e_inL1, e_inL2, e_inL3, e_is, e_isNot, e_isN1, e_isN2, e_isN3, e_isN4, e_isN5, e_isN6, e_isN7, e_ixT, e_ixL, e_ixO, e_ixB, e_ixSc, e_lenT, e_lenL, e_lenO, e_lenB, e_lenSc, e_lenS, e_tupT, e_tupL, e_tupO, e_tupB, e_lisT, e_lisL, e_lisO, e_lisB, e_min2, e_max2, e_any, e_all, e_sum, e_sorted, e_rev, e_sl, e_oN, e_isi, e_lc, e_wipe0, e_wipe1, e_iA, e_iAb, e_gAq1, e_gAq2, e_gAq3, e_gAqb1, e_gAqb2, e_gAqb3, e_gAqb4, e_no, e_cCh, e_cChI, e_aug, e_decT, e_decF, e_cDispS, e_cDT, e_cDK, e_cDisp1, e_storeA, e_stR1, e_stR2, e_stR3, e_sd1, e_keyD1, e_keyD2, e_keyTD, e_intsD, e_intsD0, e_borT, e_borT2, e_borK, e_borK2, e_argT, e_argT2, e_argK, e_argK2, e_nbT, e_nbK, e_putT, e_putK, e_gAt1, e_gAt2, e_gAt3, e_gAt4, e_gGetDK, e_gGetDT, e_gIxD, e_gInD, e_gNotInD, e_cGet1, e_cGet2, e_dk1, e_dk2, e_dk3, e_dk4, e_dt1, e_dt2, e_del, atI_zero, e_at1, e_at2, e_at3, e_at4, e_at5, e_at6, e_at7, e_at8, e_at9, e_atm, e_V, e_retV, e_unp, e_app, e_store, e_fzE, oS, rsO_some, Rs.bind_ok, Rs.bind_no, Rs.out_ok, Out.then_nx, Out.then_rt, Out.then_ct, Out.then_bk, fin_rt, fin_nx, List.getElem?_cons_zero, List.getElem?_cons_succ, List.set_cons_succ, List.set_cons_zero, List.length_cons, List.length_nil, Nat.reduceAdd, Nat.reduceLT, Nat.reduceLeDiff, Nat.reduceEqDiff, if_true, if_false, Bool.false_eq_true, Bool.not_true, Bool.not_false, and_self, true_and, and_true, List.map_cons, List.map_nil, Option.map_some, sh_int, sh_bool, sh_none, sh_tup, sh_lst, eqv_int, reduceIte, Option.bind_some, Option.bind_none, kitB_ll, kitB_lt, kitB_tt, kitB_tl, kitB_ii, tyD_list, tyD_int, Bool.true_and, Bool.false_and, Bool.and_true, Bool.and_false, Bool.or_true, Bool.true_or, Bool.false_or, Bool.or_false, Bool.and_self, Bool.or_self, e_cAK, List.append_nil, List.nil_append, List.cons_append, e_andB, e_orB, e_andR, e_orR, tyD_tuple, eqv_bool, eqv_none, tyD_bool, tyD_str, tyD_none, kitB_bb, kitB_nb, kitB_bi, kitB_ib, kitB_nl, kitB_nt, beq_self_eq_true, anyI, decide_eq_true hx, if_pos hx]
        · simp only [e_nil, e_seq, e_fz, e_bk, e_ct, e_ret, e_retN, e_drop, e_set, e_if, e_for, e_cC, e_c2, e_c1, e_cA, e_aN, e_aC, e_cB, e_asB, e_bNot, e_bAnd, e_bOr, e_vAnd, e_vOr, e_vNot, e_vIf, e_bYes, e_iL, e_iT, e_iLb, e_iR, e_gL1, e_gL2, e_gL3, e_gT, e_gLb1, e_gLb2, e_gLb3, e_gLb4, e_nb1, e_nb2, e_bor1, e_bor2, e_bor3, e_bor4, e_arg1, e_arg2, e_arg3, e_arg4, e_putd, e_puto, e_toD1, e_toD2, e_allD0, e_allD1, e_allD2, e_gTupl, e_gList, e_tgnm, e_tgtp, e_tg0, e_tg1, e_sq1, e_sq2, e_sq3, e_sq4, e_sq5, e_qv2, e_qv3, e_qv4, e_qv5, e_data1, e_data2, e_data3, e_okI, e_okB, e_i2, e_sub, e_mul, e_mod, e_div, e_pow, e_lt, e_le, e_gt, e_ge, e_neg, e_addI, e_addS, e_addT, e_addL1, e_addL2, e_addL3, e_addL4, e_addL5, e_addL6, e_addL7, e_addL8, e_addL9, e_eq, e_ne, e_in, e_notIn, e_inT, e_inT2, e_inL1, e_inL2, e_inL3, e_is, e_isNot, e_isN1, e_isN2, e_isN3, e_isN4, e_isN5, e_isN6, e_isN7, e_ixT, e_ixL, e_ixO, e_ixB, e_ixSc, e_lenT, e_lenL, e_lenO, e_lenB, e_lenSc, e_lenS, e_tupT, e_tupL, e_tupO, e_tupB, e_lisT, e_lisL, e_lisO, e_lisB, e_min2, e_max2, e_any, e_all, e_sum, e_sorted, e_rev, e_sl, e_oN, e_isi, e_lc, e_wipe0, e_wipe1, e_iA, e_iAb, e_gAq1, e_gAq2, e_gAq3, e_gAqb1, e_gAqb2, e_gAqb3, e_gAqb4, e_no, e_cCh, e_cChI, e_aug, e_decT, e_decF, e_cDispS, e_cDT, e_cDK, e_cDisp1, e_storeA, e_stR1, e_stR2, e_stR3, e_sd1, e_keyD1, e_keyD2, e_keyTD, e_intsD, e_intsD0, e_borT, e_borT2, e_borK, e_borK2, e_argT, e_argT2, e_argK, e_argK2, e_nbT, e_nbK, e_putT, e_putK, e_gAt1, e_gAt2, e_gAt3, e_gAt4, e_gGetDK, e_gGetDT, e_gIxD, e_gInD, e_gNotInD, e_cGet1, e_cGet2, e_dk1, e_dk2, e_dk3, e_dk4, e_dt1, e_dt2, e_del, atI_zero, e_at1, e_at2, e_at3, e_at4, e_at5, e_at6, e_at7, e_at8, e_at9, e_atm, e_V, e_retV, e_unp, e_app, e_store, e_fzE, oS, rsO_some, Rs.bind_ok, Rs.bind_no, Rs.out_ok, Out.then_nx, Out.then_rt, Out.then_ct, Out.then_bk, fin_rt, fin_nx, List.getElem?_cons_zero, List.getElem?_cons_succ, List.set_cons_succ, List.set_cons_zero, List.length_cons, List.length_nil, Nat.reduceAdd, Nat.reduceLT, Nat.reduceLeDiff, Nat.reduceEqDiff, if_true, if_false, Bool.false_eq_true, Bool.not_true, Bool.not_false, and_self, true_and, and_true, List.map_cons, List.map_nil, Option.map_some, sh_int, sh_bool, sh_none, sh_tup, sh_lst, eqv_int, reduceIte, Option.bind_some, Option.bind_none, kitB_ll, kitB_lt, kitB_tt, kitB_tl, kitB_ii, tyD_list, tyD_int, Bool.true_and, Bool.false_and, Bool.and_true, Bool.and_false, Bool.or_true, Bool.true_or, Bool.false_or, Bool.or_false, Bool.and_self, Bool.or_self, e_cAK, List.append_nil, List.nil_append, List.cons_append, e_andB, e_orB, e_andR, e_orR, tyD_tuple, eqv_bool, eqv_none, tyD_bool, tyD_str, tyD_none, kitB_bb, kitB_nb, kitB_bi, kitB_ib, kitB_nl, kitB_nt, beq_self_eq_true, anyI, decide_eq_false hx, if_neg hx]
      rw [e]
      by_cases hx : x ∈ h
      · rw [if_pos hx, lp_nx, ih, List.all_cons, decide_eq_true hx, Bool.true_and]
      · rw [if_neg hx, lp_rt, List.all_cons, decide_eq_false hx, Bool.false_and, if_neg Bool.false_ne_true]
  obtain ⟨e3', e1⟩ := main (usAt us s) none
  show (sSeq _ _ [some (.d (encT us ts)), some (.d (.tuple (h.map .int))), some (.d (.int s)), none]).fin = _
  simp only [e_nil, e_seq, e_fz, e_bk, e_ct, e_ret, e_retN, e_drop, e_set, e_if, e_for, e_cC, e_c2, e_c1, e_cA, e_aN, e_aC, e_cB, e_asB, e_bNot, e_bAnd, e_bOr, e_vAnd, e_vOr, e_vNot, e_vIf, e_bYes, e_iL, e_iT, e_iLb, e_iR, e_gL1, e_gL2, e_gL3, e_gT, e_gLb1, e_gLb2, e_gLb3, e_gLb4, e_nb1, e_nb2, e_bor1, e_bor2, e_bor3, e_bor4, e_arg1, e_arg2, e_arg3, e_arg4, e_putd, e_puto, e_toD1, e_toD2, e_allD0, e_allD1, e_allD2, e_gTupl, e_gList, e_tgnm, e_tgtp, e_tg0, e_tg1, e_sq1, e_sq2, e_sq3, e_sq4, e_sq5, e_qv2, e_qv3, e_qv4, e_qv5, e_data1, e_data2, e_data3, e_okI, e_okB, e_i2, e_sub, e_mul, e_mod, e_div, e_pow, e_lt, e_le, e_gt, e_ge, e_neg, e_addI, e_addS, e_addT, e_addL1, e_addL2, e_addL3, e_addL4, e_addL5, e_addL6, e_addL7, e_addL8, e_addL9, e_eq, e_ne, e_in, e_notIn, e_inT, e_inT2, e_inL1, e_inL2, e_inL3, e_is, e_isNot, e_isN1, e_isN2, e_isN3, e_isN4, e_isN5, e_isN6, e_isN7, e_ixT, e_ixL, e_ixO, e_ixB, e_ixSc, e_lenT, e_lenL, e_lenO, e_lenB, e_lenSc, e_lenS, e_tupT, e_tupL, e_tupO, e_tupB, e_lisT, e_lisL, e_lisO, e_lisB, e_min2, e_max2, e_any, e_all, e_sum, e_sorted, e_rev, e_sl, e_oN, e_isi, e_lc, e_wipe0, e_wipe1, e_iA, e_iAb, e_gAq1, e_gAq2, e_gAq3, e_gAqb1, e_gAqb2, e_gAqb3, e_gAqb4, e_no, e_cCh, e_cChI, e_aug, e_decT, e_decF, e_cDispS, e_cDT, e_cDK, e_cDisp1, e_storeA, e_stR1, e_stR2, e_stR3, e_sd1, e_keyD1, e_keyD2, e_keyTD, e_intsD, e_intsD0, e_borT, e_borT2, e_borK, e_borK2, e_argT, e_argT2, e_argK, e_argK2, e_nbT, e_nbK, e_putT, e_putK, e_gAt1, e_gAt2, e_gAt3, e_gAt4, e_gGetDK, e_gGetDT, e_gIxD, e_gInD, e_gNotInD, e_cGet1, e_cGet2, e_dk1, e_dk2, e_dk3, e_dk4, e_dt1, e_dt2, e_del, atI_zero, e_at1, e_at2, e_at3, e_at4, e_at5, e_at6, e_at7, e_at8, e_at9, e_atm, e_V, e_retV, e_unp, e_app, e_store, e_fzE, oS, rsO_some, Rs.bind_ok, Rs.bind_no, Rs.out_ok, Out.then_nx, Out.then_rt, Out.then_ct, Out.then_bk, fin_rt, fin_nx, List.getElem?_cons_zero, List.getElem?_cons_succ, List.set_cons_succ, List.set_cons_zero, List.length_cons, List.length_nil, Nat.reduceAdd, Nat.reduceLT, Nat.reduceLeDiff, Nat.reduceEqDiff, if_true, if_false, Bool.false_eq_true, Bool.not_true, Bool.not_false, and_self, true_and, and_true, List.map_cons, List.map_nil, Option.map_some, sh_int, sh_bool, sh_none, sh_tup, sh_lst, eqv_int, reduceIte, Option.bind_some, Option.bind_none, kitB_ll, kitB_lt, kitB_tt, kitB_tl, kitB_ii, tyD_list, tyD_int, Bool.true_and, Bool.false_and, Bool.and_true, Bool.and_false, Bool.or_true, Bool.true_or, Bool.false_or, Bool.or_false, Bool.and_self, Bool.or_self, e_cAK, List.append_nil, List.nil_append, List.cons_append, e_andB, e_orB, e_andR, e_orR, tyD_tuple, eqv_bool, eqv_none, tyD_bool, tyD_str, tyD_none, kitB_bb, kitB_nb, kitB_bi, kitB_ib, kitB_nl, kitB_nt, beq_self_eq_true, hs, ha, e1]
  cases hc : canM us h s with
  | true =>
    have e : ((usAt us s).all fun u => decide (u ∈ h)) = true := hc
    rw [if_pos e]
    simp only [e_nil, e_seq, e_fz, e_bk, e_ct, e_ret, e_retN, e_drop, e_set, e_if, e_for, e_cC, e_c2, e_c1, e_cA, e_aN, e_aC, e_cB, e_asB, e_bNot, e_bAnd, e_bOr, e_vAnd, e_vOr, e_vNot, e_vIf, e_bYes, e_iL, e_iT, e_iLb, e_iR, e_gL1, e_gL2, e_gL3, e_gT, e_gLb1, e_gLb2, e_gLb3, e_gLb4, e_nb1, e_nb2, e_bor1, e_bor2, e_bor3, e_bor4, e_arg1, e_arg2, e_arg3, e_arg4, e_putd, e_puto, e_toD1, e_toD2, e_allD0, e_allD1, e_allD2, e_gTupl, e_gList, e_tgnm, e_tgtp, e_tg0, e_tg1, e_sq1, e_sq2, e_sq3, e_sq4, e_sq5, e_qv2, e_qv3, e_qv4, e_qv5, e_data1, e_data2, e_data3, e_okI, e_okB, e_i2, e_sub, e_mul, e_mod, e_div, e_pow, e_lt, e_le, e_gt, e_ge, e_neg, e_addI, e_addS, e_addT, e_addL1, e_addL2, e_addL3, e_addL4, e_addL5, e_addL6, e_addL7, e_addL8, e_addL9, e_eq, e_ne, e_in, e_notIn, e_inT, e_inT2, e_inL1, e_inL2, e_inL3, e_is, e_isNot, e_isN1, e_isN2, e_isN3, e_isN4, e_isN5, e_isN6, e_isN7, e_ixT, e_ixL, e_ixO, e_ixB, e_ixSc, e_lenT, e_lenL, e_lenO, e_lenB, e_lenSc, e_lenS, e_tupT, e_tupL, e_tupO, e_tupB, e_lisT, e_lisL, e_lisO, e_lisB, e_min2, e_max2, e_any, e_all, e_sum, e_sorted, e_rev, e_sl, e_oN, e_isi, e_lc, e_wipe0, e_wipe1, e_iA, e_iAb, e_gAq1, e_gAq2, e_gAq3, e_gAqb1, e_gAqb2, e_gAqb3, e_gAqb4, e_no, e_cCh, e_cChI, e_aug, e_decT, e_decF, e_cDispS, e_cDT, e_cDK, e_cDisp1, e_storeA, e_stR1, e_stR2, e_stR3, e_sd1, e_keyD1, e_keyD2, e_keyTD, e_intsD, e_intsD0, e_borT, e_borT2, e_borK, e_borK2, e_argT, e_argT2, e_argK, e_argK2, e_nbT, e_nbK, e_putT, e_putK, e_gAt1, e_gAt2, e_gAt3, e_gAt4, e_gGetDK, e_gGetDT, e_gIxD, e_gInD, e_gNotInD, e_cGet1, e_cGet2, e_dk1, e_dk2, e_dk3, e_dk4, e_dt1, e_dt2, e_del, atI_zero, e_at1, e_at2, e_at3, e_at4, e_at5, e_at6, e_at7, e_at8, e_at9, e_atm, e_V, e_retV, e_unp, e_app, e_store, e_fzE, oS, rsO_some, Rs.bind_ok, Rs.bind_no, Rs.out_ok, Out.then_nx, Out.then_rt, Out.then_ct, Out.then_bk, fin_rt, fin_nx, List.getElem?_cons_zero, List.getElem?_cons_succ, List.set_cons_succ, List.set_cons_zero, List.length_cons, List.length_nil, Nat.reduceAdd, Nat.reduceLT, Nat.reduceLeDiff, Nat.reduceEqDiff, if_true, if_false, Bool.false_eq_true, Bool.not_true, Bool.not_false, and_self, true_and, and_true, List.map_cons, List.map_nil, Option.map_some, sh_int, sh_bool, sh_none, sh_tup, sh_lst, eqv_int, reduceIte, Option.bind_some, Option.bind_none, kitB_ll, kitB_lt, kitB_tt, kitB_tl, kitB_ii, tyD_list, tyD_int, Bool.true_and, Bool.false_and, Bool.and_true, Bool.and_false, Bool.or_true, Bool.true_or, Bool.false_or, Bool.or_false, Bool.and_self, Bool.or_self, e_cAK, List.append_nil, List.nil_append, List.cons_append, e_andB, e_orB, e_andR, e_orR, tyD_tuple, eqv_bool, eqv_none, tyD_bool, tyD_str, tyD_none, kitB_bb, kitB_nb, kitB_bi, kitB_ib, kitB_nl, kitB_nt, beq_self_eq_true]
  | false =>
    have : ¬ ((usAt us s).all fun u => decide (u ∈ h)) = true := by
      have e : ((usAt us s).all fun u => decide (u ∈ h)) = false := hc
      rw [e]; exact Bool.false_ne_true
    rw [if_neg this]
    simp only [e_nil, e_seq, e_fz, e_bk, e_ct, e_ret, e_retN, e_drop, e_set, e_if, e_for, e_cC, e_c2, e_c1, e_cA, e_aN, e_aC, e_cB, e_asB, e_bNot, e_bAnd, e_bOr, e_vAnd, e_vOr, e_vNot, e_vIf, e_bYes, e_iL, e_iT, e_iLb, e_iR, e_gL1, e_gL2, e_gL3, e_gT, e_gLb1, e_gLb2, e_gLb3, e_gLb4, e_nb1, e_nb2, e_bor1, e_bor2, e_bor3, e_bor4, e_arg1, e_arg2, e_arg3, e_arg4, e_putd, e_puto, e_toD1, e_toD2, e_allD0, e_allD1, e_allD2, e_gTupl, e_gList, e_tgnm, e_tgtp, e_tg0, e_tg1, e_sq1, e_sq2, e_sq3, e_sq4, e_sq5, e_qv2, e_qv3, e_qv4, e_qv5, e_data1, e_data2, e_data3, e_okI, e_okB, e_i2, e_sub, e_mul, e_mod, e_div, e_pow, e_lt, e_le, e_gt, e_ge, e_neg, e_addI, e_addS, e_addT, e_addL1, e_addL2, e_addL3, e_addL4, e_addL5, e_addL6, e_addL7, e_addL8, e_addL9, e_eq, e_ne, e_in, e_notIn, e_inT, e_inT2, e_inL1, e_inL2, e_inL3, e_is, e_isNot, e_isN1, e_isN2, e_isN3, e_isN4, e_isN5, e_isN6, e_isN7, e_ixT, e_ixL, e_ixO, e_ixB, e_ixSc, e_lenT, e_lenL, e_lenO, e_lenB, e_lenSc, e_lenS, e_tupT, e_tupL, e_tupO, e_tupB, e_lisT, e_lisL, e_lisO, e_lisB, e_min2, e_max2, e_any, e_all, e_sum, e_sorted, e_rev, e_sl, e_oN, e_isi, e_lc, e_wipe0, e_wipe1, e_iA, e_iAb, e_gAq1, e_gAq2, e_gAq3, e_gAqb1, e_gAqb2, e_gAqb3, e_gAqb4, e_no, e_cCh, e_cChI, e_aug, e_decT, e_decF, e_cDispS, e_cDT, e_cDK, e_cDisp1, e_storeA, e_stR1, e_stR2, e_stR3, e_sd1, e_keyD1, e_keyD2, e_keyTD, e_intsD, e_intsD0, e_borT, e_borT2, e_borK, e_borK2, e_argT, e_argT2, e_argK, e_argK2, e_nbT, e_nbK, e_putT, e_putK, e_gAt1, e_gAt2, e_gAt3, e_gAt4, e_gGetDK, e_gGetDT, e_gIxD, e_gInD, e_gNotInD, e_cGet1, e_cGet2, e_dk1, e_dk2, e_dk3, e_dk4, e_dt1, e_dt2, e_del, atI_zero, e_at1, e_at2, e_at3, e_at4, e_at5, e_at6, e_at7, e_at8, e_at9, e_atm, e_V, e_retV, e_unp, e_app, e_store, e_fzE, oS, rsO_some, Rs.bind_ok, Rs.bind_no, Rs.out_ok, Out.then_nx, Out.then_rt, Out.then_ct, Out.then_bk, fin_rt, fin_nx, List.getElem?_cons_zero, List.getElem?_cons_succ, List.set_cons_succ, List.set_cons_zero, List.length_cons, List.length_nil, Nat.reduceAdd, Nat.reduceLT, Nat.reduceLeDiff, Nat.reduceEqDiff, if_true, if_false, Bool.false_eq_true, Bool.not_true, Bool.not_false, and_self, true_and, and_true, List.map_cons, List.map_nil, Option.map_some, sh_int, sh_bool, sh_none, sh_tup, sh_lst, eqv_int, reduceIte, Option.bind_some, Option.bind_none, kitB_ll, kitB_lt, kitB_tt, kitB_tl, kitB_ii, tyD_list, tyD_int, Bool.true_and, Bool.false_and, Bool.and_true, Bool.and_false, Bool.or_true, Bool.true_or, Bool.false_or, Bool.or_false, Bool.and_self, Bool.or_self, e_cAK, List.append_nil, List.nil_append, List.cons_append, e_andB, e_orB, e_andR, e_orR, tyD_tuple, eqv_bool, eqv_none, tyD_bool, tyD_str, tyD_none, kitB_bb, kitB_nb, kitB_bi, kitB_ib, kitB_nl, kitB_nt, beq_self_eq_true]
theorem law_moved_ok (h : List Int) (s : Int) (hl : h.length ≤ 1000) : F__law_moved [.d (.tuple (h.map .int)), .d (.int s)] = .ok (.d (.tuple ((movM h s).map .int))) := by
  show (sSeq _ _ [some (.d (.tuple (h.map .int))), some (.d (.int s)), none]).fin = _
  have hz : h.length ≤ 1000000 := by omega
  have hz2 : h.length ≤ 999999 := by omega
  have hc : lcF (.nm 2) (cB (c2 gNe (cV 2) (cV 1))) (cV 2) [some (.d (.tuple (h.map .int))), some (.d (.int s)), none] (h.map .int) = .ok ((h.filter fun x => decide (x ≠ s)).map .int) :=
    lc_ints 2 h _ (by simp) fun x _ => by
      simp only [List.set_cons_succ, List.set_cons_zero]
      simp only [e_nil, e_seq, e_fz, e_bk, e_ct, e_ret, e_retN, e_drop, e_set, e_if, e_for, e_cC, e_c2, e_c1, e_cA, e_aN, e_aC, e_cB, e_asB, e_bNot, e_bAnd, e_bOr, e_vAnd, e_vOr, e_vNot, e_vIf, e_bYes, e_iL, e_iT, e_iLb, e_iR, e_gL1, e_gL2, e_gL3, e_gT, e_gLb1, e_gLb2, e_gLb3, e_gLb4, e_nb1, e_nb2, e_bor1, e_bor2, e_bor3, e_bor4, e_arg1, e_arg2, e_arg3, e_arg4, e_putd, e_puto, e_toD1, e_toD2, e_allD0, e_allD1, e_allD2, e_gTupl, e_gList, e_tgnm, e_tgtp, e_tg0, e_tg1, e_sq1, e_sq2, e_sq3, e_sq4, e_sq5, e_qv2, e_qv3, e_qv4, e_qv5, e_data1, e_data2, e_data3, e_okI, e_okB, e_i2, e_sub, e_mul, e_mod, e_div, e_pow, e_lt, e_le, e_gt, e_ge, e_neg, e_addI, e_addS, e_addT, e_addL1, e_addL2, e_addL3, e_addL4, e_addL5, e_addL6, e_addL7, e_addL8, e_addL9, e_eq, e_ne, e_in, e_notIn, e_inT, e_inT2, e_inL1, e_inL2, e_inL3, e_is, e_isNot, e_isN1, e_isN2, e_isN3, e_isN4, e_isN5, e_isN6, e_isN7, e_ixT, e_ixL, e_ixO, e_ixB, e_ixSc, e_lenT, e_lenL, e_lenO, e_lenB, e_lenSc, e_lenS, e_tupT, e_tupL, e_tupO, e_tupB, e_lisT, e_lisL, e_lisO, e_lisB, e_min2, e_max2, e_any, e_all, e_sum, e_sorted, e_rev, e_sl, e_oN, e_isi, e_lc, e_wipe0, e_wipe1, e_iA, e_iAb, e_gAq1, e_gAq2, e_gAq3, e_gAqb1, e_gAqb2, e_gAqb3, e_gAqb4, e_no, e_cCh, e_cChI, e_aug, e_decT, e_decF, e_cDispS, e_cDT, e_cDK, e_cDisp1, e_storeA, e_stR1, e_stR2, e_stR3, e_sd1, e_keyD1, e_keyD2, e_keyTD, e_intsD, e_intsD0, e_borT, e_borT2, e_borK, e_borK2, e_argT, e_argT2, e_argK, e_argK2, e_nbT, e_nbK, e_putT, e_putK, e_gAt1, e_gAt2, e_gAt3, e_gAt4, e_gGetDK, e_gGetDT, e_gIxD, e_gInD, e_gNotInD, e_cGet1, e_cGet2, e_dk1, e_dk2, e_dk3, e_dk4, e_dt1, e_dt2, e_del, atI_zero, e_at1, e_at2, e_at3, e_at4, e_at5, e_at6, e_at7, e_at8, e_at9, e_atm, e_V, e_retV, e_unp, e_app, e_store, e_fzE, oS, rsO_some, Rs.bind_ok, Rs.bind_no, Rs.out_ok, Out.then_nx, Out.then_rt, Out.then_ct, Out.then_bk, fin_rt, fin_nx, List.getElem?_cons_zero, List.getElem?_cons_succ, List.set_cons_succ, List.set_cons_zero, List.length_cons, List.length_nil, Nat.reduceAdd, Nat.reduceLT, Nat.reduceLeDiff, Nat.reduceEqDiff, if_true, if_false, Bool.false_eq_true, Bool.not_true, Bool.not_false, and_self, true_and, and_true, List.map_cons, List.map_nil, Option.map_some, sh_int, sh_bool, sh_none, sh_tup, sh_lst, eqv_int, reduceIte, Option.bind_some, Option.bind_none, kitB_ll, kitB_lt, kitB_tt, kitB_tl, kitB_ii, tyD_list, tyD_int, Bool.true_and, Bool.false_and, Bool.and_true, Bool.and_false, Bool.or_true, Bool.true_or, Bool.false_or, Bool.or_false, Bool.and_self, Bool.or_self, e_cAK, List.append_nil, List.nil_append, List.cons_append, e_andB, e_orB, e_andR, e_orR, tyD_tuple, eqv_bool, eqv_none, tyD_bool, tyD_str, tyD_none, kitB_bb, kitB_nb, kitB_bi, kitB_ib, kitB_nl, kitB_nt, beq_self_eq_true, ne_int]
  have hm : (h.map PyData.int ++ [.int s]) = (h ++ [s]).map PyData.int := by simp
  by_cases hs : s ∈ h
  · have : movM h s = h.filter fun x => decide (x ≠ s) := if_pos hs
    rw [this]
    simp only [e_nil, e_seq, e_fz, e_bk, e_ct, e_ret, e_retN, e_drop, e_set, e_if, e_for, e_cC, e_c2, e_c1, e_cA, e_aN, e_aC, e_cB, e_asB, e_bNot, e_bAnd, e_bOr, e_vAnd, e_vOr, e_vNot, e_vIf, e_bYes, e_iL, e_iT, e_iLb, e_iR, e_gL1, e_gL2, e_gL3, e_gT, e_gLb1, e_gLb2, e_gLb3, e_gLb4, e_nb1, e_nb2, e_bor1, e_bor2, e_bor3, e_bor4, e_arg1, e_arg2, e_arg3, e_arg4, e_putd, e_puto, e_toD1, e_toD2, e_allD0, e_allD1, e_allD2, e_gTupl, e_gList, e_tgnm, e_tgtp, e_tg0, e_tg1, e_sq1, e_sq2, e_sq3, e_sq4, e_sq5, e_qv2, e_qv3, e_qv4, e_qv5, e_data1, e_data2, e_data3, e_okI, e_okB, e_i2, e_sub, e_mul, e_mod, e_div, e_pow, e_lt, e_le, e_gt, e_ge, e_neg, e_addI, e_addS, e_addT, e_addL1, e_addL2, e_addL3, e_addL4, e_addL5, e_addL6, e_addL7, e_addL8, e_addL9, e_eq, e_ne, e_in, e_notIn, e_inT, e_inT2, e_inL1, e_inL2, e_inL3, e_is, e_isNot, e_isN1, e_isN2, e_isN3, e_isN4, e_isN5, e_isN6, e_isN7, e_ixT, e_ixL, e_ixO, e_ixB, e_ixSc, e_lenT, e_lenL, e_lenO, e_lenB, e_lenSc, e_lenS, e_tupT, e_tupL, e_tupO, e_tupB, e_lisT, e_lisL, e_lisO, e_lisB, e_min2, e_max2, e_any, e_all, e_sum, e_sorted, e_rev, e_sl, e_oN, e_isi, e_lc, e_wipe0, e_wipe1, e_iA, e_iAb, e_gAq1, e_gAq2, e_gAq3, e_gAqb1, e_gAqb2, e_gAqb3, e_gAqb4, e_no, e_cCh, e_cChI, e_aug, e_decT, e_decF, e_cDispS, e_cDT, e_cDK, e_cDisp1, e_storeA, e_stR1, e_stR2, e_stR3, e_sd1, e_keyD1, e_keyD2, e_keyTD, e_intsD, e_intsD0, e_borT, e_borT2, e_borK, e_borK2, e_argT, e_argT2, e_argK, e_argK2, e_nbT, e_nbK, e_putT, e_putK, e_gAt1, e_gAt2, e_gAt3, e_gAt4, e_gGetDK, e_gGetDT, e_gIxD, e_gInD, e_gNotInD, e_cGet1, e_cGet2, e_dk1, e_dk2, e_dk3, e_dk4, e_dt1, e_dt2, e_del, atI_zero, e_at1, e_at2, e_at3, e_at4, e_at5, e_at6, e_at7, e_at8, e_at9, e_atm, e_V, e_retV, e_unp, e_app, e_store, e_fzE, oS, rsO_some, Rs.bind_ok, Rs.bind_no, Rs.out_ok, Out.then_nx, Out.then_rt, Out.then_ct, Out.then_bk, fin_rt, fin_nx, List.getElem?_cons_zero, List.getElem?_cons_succ, List.set_cons_succ, List.set_cons_zero, List.length_cons, List.length_nil, Nat.reduceAdd, Nat.reduceLT, Nat.reduceLeDiff, Nat.reduceEqDiff, if_true, if_false, Bool.false_eq_true, Bool.not_true, Bool.not_false, and_self, true_and, and_true, List.map_cons, List.map_nil, Option.map_some, sh_int, sh_bool, sh_none, sh_tup, sh_lst, eqv_int, reduceIte, Option.bind_some, Option.bind_none, kitB_ll, kitB_lt, kitB_tt, kitB_tl, kitB_ii, tyD_list, tyD_int, Bool.true_and, Bool.false_and, Bool.and_true, Bool.and_false, Bool.or_true, Bool.true_or, Bool.false_or, Bool.or_false, Bool.and_self, Bool.or_self, e_cAK, List.append_nil, List.nil_append, List.cons_append, e_andB, e_orB, e_andR, e_orR, tyD_tuple, eqv_bool, eqv_none, tyD_bool, tyD_str, tyD_none, kitB_bb, kitB_nb, kitB_bi, kitB_ib, kitB_nl, kitB_nt, beq_self_eq_true, anyI, decide_eq_true hs, List.length_map, if_pos hz, hc]
  · have : movM h s = isort (h ++ [s]) := if_neg hs
    rw [this]
    simp only [e_nil, e_seq, e_fz, e_bk, e_ct, e_ret, e_retN, e_drop, e_set, e_if, e_for, e_cC, e_c2, e_c1, e_cA, e_aN, e_aC, e_cB, e_asB, e_bNot, e_bAnd, e_bOr, e_vAnd, e_vOr, e_vNot, e_vIf, e_bYes, e_iL, e_iT, e_iLb, e_iR, e_gL1, e_gL2, e_gL3, e_gT, e_gLb1, e_gLb2, e_gLb3, e_gLb4, e_nb1, e_nb2, e_bor1, e_bor2, e_bor3, e_bor4, e_arg1, e_arg2, e_arg3, e_arg4, e_putd, e_puto, e_toD1, e_toD2, e_allD0, e_allD1, e_allD2, e_gTupl, e_gList, e_tgnm, e_tgtp, e_tg0, e_tg1, e_sq1, e_sq2, e_sq3, e_sq4, e_sq5, e_qv2, e_qv3, e_qv4, e_qv5, e_data1, e_data2, e_data3, e_okI, e_okB, e_i2, e_sub, e_mul, e_mod, e_div, e_pow, e_lt, e_le, e_gt, e_ge, e_neg, e_addI, e_addS, e_addT, e_addL1, e_addL2, e_addL3, e_addL4, e_addL5, e_addL6, e_addL7, e_addL8, e_addL9, e_eq, e_ne, e_in, e_notIn, e_inT, e_inT2, e_inL1, e_inL2, e_inL3, e_is, e_isNot, e_isN1, e_isN2, e_isN3, e_isN4, e_isN5, e_isN6, e_isN7, e_ixT, e_ixL, e_ixO, e_ixB, e_ixSc, e_lenT, e_lenL, e_lenO, e_lenB, e_lenSc, e_lenS, e_tupT, e_tupL, e_tupO, e_tupB, e_lisT, e_lisL, e_lisO, e_lisB, e_min2, e_max2, e_any, e_all, e_sum, e_sorted, e_rev, e_sl, e_oN, e_isi, e_lc, e_wipe0, e_wipe1, e_iA, e_iAb, e_gAq1, e_gAq2, e_gAq3, e_gAqb1, e_gAqb2, e_gAqb3, e_gAqb4, e_no, e_cCh, e_cChI, e_aug, e_decT, e_decF, e_cDispS, e_cDT, e_cDK, e_cDisp1, e_storeA, e_stR1, e_stR2, e_stR3, e_sd1, e_keyD1, e_keyD2, e_keyTD, e_intsD, e_intsD0, e_borT, e_borT2, e_borK, e_borK2, e_argT, e_argT2, e_argK, e_argK2, e_nbT, e_nbK, e_putT, e_putK, e_gAt1, e_gAt2, e_gAt3, e_gAt4, e_gGetDK, e_gGetDT, e_gIxD, e_gInD, e_gNotInD, e_cGet1, e_cGet2, e_dk1, e_dk2, e_dk3, e_dk4, e_dt1, e_dt2, e_del, atI_zero, e_at1, e_at2, e_at3, e_at4, e_at5, e_at6, e_at7, e_at8, e_at9, e_atm, e_V, e_retV, e_unp, e_app, e_store, e_fzE, oS, rsO_some, Rs.bind_ok, Rs.bind_no, Rs.out_ok, Out.then_nx, Out.then_rt, Out.then_ct, Out.then_bk, fin_rt, fin_nx, List.getElem?_cons_zero, List.getElem?_cons_succ, List.set_cons_succ, List.set_cons_zero, List.length_cons, List.length_nil, Nat.reduceAdd, Nat.reduceLT, Nat.reduceLeDiff, Nat.reduceEqDiff, if_true, if_false, Bool.false_eq_true, Bool.not_true, Bool.not_false, and_self, true_and, and_true, List.map_cons, List.map_nil, Option.map_some, sh_int, sh_bool, sh_none, sh_tup, sh_lst, eqv_int, reduceIte, Option.bind_some, Option.bind_none, kitB_ll, kitB_lt, kitB_tt, kitB_tl, kitB_ii, tyD_list, tyD_int, Bool.true_and, Bool.false_and, Bool.and_true, Bool.and_false, Bool.or_true, Bool.true_or, Bool.false_or, Bool.or_false, Bool.and_self, Bool.or_self, e_cAK, List.append_nil, List.nil_append, List.cons_append, e_andB, e_orB, e_andR, e_orR, tyD_tuple, eqv_bool, eqv_none, tyD_bool, tyD_str, tyD_none, kitB_bb, kitB_nb, kitB_bi, kitB_ib, kitB_nl, kitB_nt, beq_self_eq_true, anyI, decide_eq_false hs, List.length_map, if_pos hz2, hm, intsD_map]
theorem law_can_ok (us : List (List Int)) (h : List Int) (s : Int) (h0 : 0 ≤ s) (h1 : s < us.length) (hl : (usAt us s).length ≤ 1000000) : F__law_can [.d (.tuple (encU us)), .d (.tuple (h.map .int)), .d (.int s)] = .ok (.d (.bool (canM us h s))) := by
  have ha := encU_at us h0 h1
  have hc : lcF (.nm 3) bYes (c2 gIn (cV 3) (cV 1)) [some (.d (.tuple (encU us))), some (.d (.tuple (h.map .int))), some (.d (.int s)), none] ((usAt us s).map .int) = .ok (((usAt us s).map fun u => decide (u ∈ h)).map .bool) := by
    rw [lcF_map PyData.int (fun _ => true) (fun u => .bool (decide (u ∈ h))) (usAt us s) fun x _ => ⟨_, rfl, rfl, fun _ => ⟨.d (.bool (decide (x ∈ h))), by
      simp only [List.set_cons_succ, List.set_cons_zero]
      simp only [e_nil, e_seq, e_fz, e_bk, e_ct, e_ret, e_retN, e_drop, e_set, e_if, e_for, e_cC, e_c2, e_c1, e_cA, e_aN, e_aC, e_cB, e_asB, e_bNot, e_bAnd, e_bOr, e_vAnd, e_vOr, e_vNot, e_vIf, e_bYes, e_iL, e_iT, e_iLb, e_iR, e_gL1, e_gL2, e_gL3, e_gT, e_gLb1, e_gLb2, e_gLb3, e_gLb4, e_nb1, e_nb2, e_bor1, e_bor2, e_bor3, e_bor4, e_arg1, e_arg2, e_arg3, e_arg4, e_putd, e_puto, e_toD1, e_toD2, e_allD0, e_allD1, e_allD2, e_gTupl, e_gList, e_tgnm, e_tgtp, e_tg0, e_tg1, e_sq1, e_sq2, e_sq3, e_sq4, e_sq5, e_qv2, e_qv3, e_qv4, e_qv5, e_data1, e_data2, e_data3, e_okI, e_okB, e_i2, e_sub, e_mul, e_mod, e_div, e_pow, e_lt, e_le, e_gt, e_ge, e_neg, e_addI, e_addS, e_addT, e_addL1, e_addL2, e_addL3, e_addL4, e_addL5, e_addL6, e_addL7, e_addL8, e_addL9, e_eq, e_ne, e_in, e_notIn, e_inT, e_inT2, e_inL1, e_inL2, e_inL3, e_is, e_isNot, e_isN1, e_isN2, e_isN3, e_isN4, e_isN5, e_isN6, e_isN7, e_ixT, e_ixL, e_ixO, e_ixB, e_ixSc, e_lenT, e_lenL, e_lenO, e_lenB, e_lenSc, e_lenS, e_tupT, e_tupL, e_tupO, e_tupB, e_lisT, e_lisL, e_lisO, e_lisB, e_min2, e_max2, e_any, e_all, e_sum, e_sorted, e_rev, e_sl, e_oN, e_isi, e_lc, e_wipe0, e_wipe1, e_iA, e_iAb, e_gAq1, e_gAq2, e_gAq3, e_gAqb1, e_gAqb2, e_gAqb3, e_gAqb4, e_no, e_cCh, e_cChI, e_aug, e_decT, e_decF, e_cDispS, e_cDT, e_cDK, e_cDisp1, e_storeA, e_stR1, e_stR2, e_stR3, e_sd1, e_keyD1, e_keyD2, e_keyTD, e_intsD, e_intsD0, e_borT, e_borT2, e_borK, e_borK2, e_argT, e_argT2, e_argK, e_argK2, e_nbT, e_nbK, e_putT, e_putK, e_gAt1, e_gAt2, e_gAt3, e_gAt4, e_gGetDK, e_gGetDT, e_gIxD, e_gInD, e_gNotInD, e_cGet1, e_cGet2, e_dk1, e_dk2, e_dk3, e_dk4, e_dt1, e_dt2, e_del, atI_zero, e_at1, e_at2, e_at3, e_at4, e_at5, e_at6, e_at7, e_at8, e_at9, e_atm, e_V, e_retV, e_unp, e_app, e_store, e_fzE, oS, rsO_some, Rs.bind_ok, Rs.bind_no, Rs.out_ok, Out.then_nx, Out.then_rt, Out.then_ct, Out.then_bk, fin_rt, fin_nx, List.getElem?_cons_zero, List.getElem?_cons_succ, List.set_cons_succ, List.set_cons_zero, List.length_cons, List.length_nil, Nat.reduceAdd, Nat.reduceLT, Nat.reduceLeDiff, Nat.reduceEqDiff, if_true, if_false, Bool.false_eq_true, Bool.not_true, Bool.not_false, and_self, true_and, and_true, List.map_cons, List.map_nil, Option.map_some, sh_int, sh_bool, sh_none, sh_tup, sh_lst, eqv_int, reduceIte, Option.bind_some, Option.bind_none, kitB_ll, kitB_lt, kitB_tt, kitB_tl, kitB_ii, tyD_list, tyD_int, Bool.true_and, Bool.false_and, Bool.and_true, Bool.and_false, Bool.or_true, Bool.true_or, Bool.false_or, Bool.or_false, Bool.and_self, Bool.or_self, e_cAK, List.append_nil, List.nil_append, List.cons_append, e_andB, e_orB, e_andR, e_orR, tyD_tuple, eqv_bool, eqv_none, tyD_bool, tyD_str, tyD_none, kitB_bb, kitB_nb, kitB_bi, kitB_ib, kitB_nl, kitB_nt, beq_self_eq_true, anyI], rfl⟩⟩]
    rw [List.filter_eq_self.mpr (fun _ _ => rfl), List.map_map]
    rfl
  show (sRet _ [some (.d (.tuple (encU us))), some (.d (.tuple (h.map .int))), some (.d (.int s)), none]).fin = _
  simp only [e_nil, e_seq, e_fz, e_bk, e_ct, e_ret, e_retN, e_drop, e_set, e_if, e_for, e_cC, e_c2, e_c1, e_cA, e_aN, e_aC, e_cB, e_asB, e_bNot, e_bAnd, e_bOr, e_vAnd, e_vOr, e_vNot, e_vIf, e_bYes, e_iL, e_iT, e_iLb, e_iR, e_gL1, e_gL2, e_gL3, e_gT, e_gLb1, e_gLb2, e_gLb3, e_gLb4, e_nb1, e_nb2, e_bor1, e_bor2, e_bor3, e_bor4, e_arg1, e_arg2, e_arg3, e_arg4, e_putd, e_puto, e_toD1, e_toD2, e_allD0, e_allD1, e_allD2, e_gTupl, e_gList, e_tgnm, e_tgtp, e_tg0, e_tg1, e_sq1, e_sq2, e_sq3, e_sq4, e_sq5, e_qv2, e_qv3, e_qv4, e_qv5, e_data1, e_data2, e_data3, e_okI, e_okB, e_i2, e_sub, e_mul, e_mod, e_div, e_pow, e_lt, e_le, e_gt, e_ge, e_neg, e_addI, e_addS, e_addT, e_addL1, e_addL2, e_addL3, e_addL4, e_addL5, e_addL6, e_addL7, e_addL8, e_addL9, e_eq, e_ne, e_in, e_notIn, e_inT, e_inT2, e_inL1, e_inL2, e_inL3, e_is, e_isNot, e_isN1, e_isN2, e_isN3, e_isN4, e_isN5, e_isN6, e_isN7, e_ixT, e_ixL, e_ixO, e_ixB, e_ixSc, e_lenT, e_lenL, e_lenO, e_lenB, e_lenSc, e_lenS, e_tupT, e_tupL, e_tupO, e_tupB, e_lisT, e_lisL, e_lisO, e_lisB, e_min2, e_max2, e_any, e_all, e_sum, e_sorted, e_rev, e_sl, e_oN, e_isi, e_lc, e_wipe0, e_wipe1, e_iA, e_iAb, e_gAq1, e_gAq2, e_gAq3, e_gAqb1, e_gAqb2, e_gAqb3, e_gAqb4, e_no, e_cCh, e_cChI, e_aug, e_decT, e_decF, e_cDispS, e_cDT, e_cDK, e_cDisp1, e_storeA, e_stR1, e_stR2, e_stR3, e_sd1, e_keyD1, e_keyD2, e_keyTD, e_intsD, e_intsD0, e_borT, e_borT2, e_borK, e_borK2, e_argT, e_argT2, e_argK, e_argK2, e_nbT, e_nbK, e_putT, e_putK, e_gAt1, e_gAt2, e_gAt3, e_gAt4, e_gGetDK, e_gGetDT, e_gIxD, e_gInD, e_gNotInD, e_cGet1, e_cGet2, e_dk1, e_dk2, e_dk3, e_dk4, e_dt1, e_dt2, e_del, atI_zero, e_at1, e_at2, e_at3, e_at4, e_at5, e_at6, e_at7, e_at8, e_at9, e_atm, e_V, e_retV, e_unp, e_app, e_store, e_fzE, oS, rsO_some, Rs.bind_ok, Rs.bind_no, Rs.out_ok, Out.then_nx, Out.then_rt, Out.then_ct, Out.then_bk, fin_rt, fin_nx, List.getElem?_cons_zero, List.getElem?_cons_succ, List.set_cons_succ, List.set_cons_zero, List.length_cons, List.length_nil, Nat.reduceAdd, Nat.reduceLT, Nat.reduceLeDiff, Nat.reduceEqDiff, if_true, if_false, Bool.false_eq_true, Bool.not_true, Bool.not_false, and_self, true_and, and_true, List.map_cons, List.map_nil, Option.map_some, sh_int, sh_bool, sh_none, sh_tup, sh_lst, eqv_int, reduceIte, Option.bind_some, Option.bind_none, kitB_ll, kitB_lt, kitB_tt, kitB_tl, kitB_ii, tyD_list, tyD_int, Bool.true_and, Bool.false_and, Bool.and_true, Bool.and_false, Bool.or_true, Bool.true_or, Bool.false_or, Bool.or_false, Bool.and_self, Bool.or_self, e_cAK, List.append_nil, List.nil_append, List.cons_append, e_andB, e_orB, e_andR, e_orR, tyD_tuple, eqv_bool, eqv_none, tyD_bool, tyD_str, tyD_none, kitB_bb, kitB_nb, kitB_bi, kitB_ib, kitB_nl, kitB_nt, beq_self_eq_true, ha, List.length_map, if_pos hl, hc, boolsD_map]
  rw [List.all_map]
  rfl
/-! ### plans walked -/
def confsM : List Int → List Int → List (List Int)
  | h, [] => [h]
  | h, s :: r => h :: confsM (movM h s) r
def endM (h p : List Int) : List Int := p.foldl movM h
def goodM (us : List (List Int)) : List Int → List Int → Prop
  | _, [] => True
  | h, s :: r => (0 ≤ s ∧ s < us.length ∧ canM us h s = true) ∧ goodM us (movM h s) r
theorem confs_snoc (s : Int) : ∀ (p h : List Int), confsM h (p ++ [s]) = confsM h p ++ [movM (endM h p) s]
  | [], h => rfl
  | x :: p, h => by
    show h :: confsM (movM h x) (p ++ [s]) = h :: (confsM (movM h x) p ++ [movM (endM (movM h x) p) s])
    rw [confs_snoc s p (movM h x)]
theorem good_snoc (us : List (List Int)) (s : Int) : ∀ (p h : List Int), goodM us h p → (0 ≤ s ∧ s < us.length ∧ canM us (endM h p) s = true) → goodM us h (p ++ [s])
  | [], h, _, g => ⟨g, trivial⟩
  | x :: p, h, k, g => ⟨k.1, good_snoc us s p (movM h x) k.2 g⟩
theorem end_snoc (h p : List Int) (s : Int) : endM h (p ++ [s]) = movM (endM h p) s := by
  unfold endM
  rw [List.foldl_append]
  rfl
theorem confs_len : ∀ (p h : List Int), (confsM h p).length = p.length + 1
  | [], h => rfl
  | x :: p, h => by
    show (confsM (movM h x) p).length + 1 = _
    rw [confs_len p]; rfl
theorem confs_bound : ∀ (p h : List Int) (c : List Int), c ∈ confsM h p → c.length ≤ h.length + p.length
  | [], h, c, hc => by
    rw [List.mem_singleton.mp hc]; simp
  | x :: p, h, c, hc => by
    have hm := movM_len h x
    rcases List.mem_cons.mp hc with rfl | hc
    · simp
    · have := confs_bound p (movM h x) c hc
      simp
      omega
theorem confs_last : ∀ (p h : List Int), ∃ xs, confsM h p = xs ++ [endM h p]
  | [], h => ⟨[], rfl⟩
  | x :: p, h => by
    obtain ⟨xs, e⟩ := confs_last p (movM h x)
    exact ⟨h :: xs, by show h :: confsM (movM h x) p = _; rw [e]; rfl⟩
theorem e_max1 (r : RV) : gMax1 [r] = (rsO r.qv).bind fun xs => (rsO (intsD xs)).bind fun bs => (rsO (maxL bs)).bind okI := rfl
/-! ### strictly ascending configurations; moves taken back -/
def Up (h : List Int) : Prop := h.Pairwise (· < ·)
theorem Up.nodup {h : List Int} (u : Up h) : h.Nodup := List.Pairwise.imp (fun hab => by omega) u
theorem Up.le {h : List Int} (u : Up h) : h.Pairwise (· ≤ ·) := List.Pairwise.imp (fun hab => by omega) u
theorem up_of {h : List Int} (n : h.Nodup) (s : h.Pairwise (· ≤ ·)) : Up h := by
  have := List.Pairwise.and n s
  exact List.Pairwise.imp (fun hab => by have := hab.1; have := hab.2; omega) this
theorem mem_movM {h : List Int} {s x : Int} : x ∈ movM h s ↔ if s ∈ h then (x ∈ h ∧ x ≠ s) else (x ∈ h ∨ x = s) := by
  unfold movM
  split
  · simp
  · rw [(isort_perm _).mem_iff]; simp
theorem movM_up {h : List Int} (u : Up h) (s : Int) : Up (movM h s) := by
  unfold movM
  split
  · exact List.Pairwise.filter _ u
  · rename_i hs
    refine up_of ?_ (isort_sorted _)
    rw [(isort_perm _).nodup_iff, List.nodup_append]
    refine ⟨u.nodup, by simp, fun a ha b hb e => hs ?_⟩
    rw [List.mem_singleton.mp hb] at e
    exact e ▸ ha
theorem Up.ext {h k : List Int} (u : Up h) (v : Up k) (e : ∀ x, x ∈ h ↔ x ∈ k) : h = k :=
  sorted_uniq ((List.perm_ext_iff_of_nodup u.nodup v.nodup).mpr e) u.le v.le
theorem mem_out {h : List Int} {s x : Int} (hs : s ∈ h) : x ∈ movM h s ↔ x ∈ h ∧ x ≠ s := by rw [mem_movM, if_pos hs]
theorem mem_in {h : List Int} {s x : Int} (hs : s ∉ h) : x ∈ movM h s ↔ x ∈ h ∨ x = s := by rw [mem_movM, if_neg hs]
theorem movM_back {h : List Int} (u : Up h) (s : Int) : movM (movM h s) s = h := by
  refine (movM_up (movM_up u s) s).ext u fun x => ?_
  by_cases hs : s ∈ h
  · have h1 : s ∉ movM h s := fun z => ((mem_out hs).mp z).2 rfl
    rw [mem_in h1, mem_out hs]
    constructor
    · rintro (z | rfl)
      · exact z.1
      · exact hs
    · intro z
      by_cases e : x = s
      · exact .inr e
      · exact .inl ⟨z, e⟩
  · have h1 : s ∈ movM h s := (mem_in hs).mpr (.inr rfl)
    rw [mem_out h1, mem_in hs]
    constructor
    · rintro ⟨z | z, w⟩
      · exact z
      · exact absurd z w
    · exact fun z => ⟨.inl z, fun e => hs (e ▸ z)⟩
theorem can_back {most : Nat} {us : List (List Int)} {ts : List Int} (wf : WF most us ts) {h : List Int} {s : Int} (s0 : 0 ≤ s) (s1 : s < us.length) : canM us (movM h s) s = canM us h s := by
  have key : ∀ x ∈ usAt us s, x ≠ s := fun x hx => by
    have hs : s.toNat < us.length := by omega
    have := wf.use s.toNat us[s.toNat] (List.getElem?_eq_getElem hs)
    have e : usAt us s = us[s.toNat] := by simp [usAt, hs]
    rw [e] at hx
    have := this.hi x hx
    omega
  have mm : ∀ x ∈ usAt us s, (x ∈ movM h s ↔ x ∈ h) := fun x hx => by
    have hk := key x hx
    by_cases hs : s ∈ h
    · rw [mem_out hs]; exact ⟨fun z => z.1, fun z => ⟨z, hk⟩⟩
    · rw [mem_in hs]; exact ⟨fun z => z.resolve_right hk, .inl⟩
  unfold canM
  rw [Bool.eq_iff_iff, List.all_eq_true, List.all_eq_true]
  exact ⟨fun z x hx => by have := z x hx; simp only [decide_eq_true_eq] at this ⊢; exact (mm x hx).mp this, fun z x hx => by have := z x hx; simp only [decide_eq_true_eq] at this ⊢; exact (mm x hx).mpr this⟩
theorem up_end {h : List Int} (u : Up h) : ∀ p : List Int, Up (endM h p) := by
  intro p
  induction p generalizing h with
  | nil => exact u
  | cons s p ih => exact ih (movM_up u s)
theorem rev_walk {most : Nat} {us : List (List Int)} {ts : List Int} (wf : WF most us ts) : ∀ (p h : List Int), Up h → goodM us h p → goodM us (endM h p) p.reverse ∧ confsM (endM h p) p.reverse = (confsM h p).reverse ∧ endM (endM h p) p.reverse = h
  | [], h, _, _ => ⟨trivial, rfl, rfl⟩
  | s :: p, h, u, g => by
    obtain ⟨i1, i2, i3⟩ := rev_walk wf p (movM h s) (movM_up u s) g.2
    have e : endM h (s :: p) = endM (movM h s) p := rfl
    rw [e, List.reverse_cons]
    refine ⟨good_snoc us s _ _ i1 ?_, ?_, ?_⟩
    · rw [i3, can_back wf g.1.1 g.1.2.1]; exact g.1
    · rw [confs_snoc, i2, i3, movM_back u]
      show _ = (h :: confsM (movM h s) p).reverse
      rw [List.reverse_cons]
    · rw [end_snoc, i3, movM_back u]
theorem movM_parity {h : List Int} (u : Up h) (s : Int) : (movM h s).length % 2 = (h.length + 1) % 2 := by
  unfold movM
  split
  · rename_i hs
    have e : (h.filter fun x => decide (x ≠ s)) = h.erase s := by
      rw [u.nodup.erase_eq_filter]
      congr 1
      funext x
      simp [bne]
      rfl
    rw [e, List.length_erase_of_mem hs]
    have := List.length_pos_of_mem hs
    omega
  · rw [(isort_perm _).length_eq]; simp
theorem end_parity : ∀ (p h : List Int), Up h → (endM h p).length % 2 = (h.length + p.length) % 2
  | [], h, _ => rfl
  | s :: p, h, u => by
    have := end_parity p (movM h s) (movM_up u s)
    have := movM_parity u s
    show (endM (movM h s) p).length % 2 = _
    simp
    omega
/-! ### the first possible step from s on -/
theorem can_zero {most : Nat} {us : List (List Int)} {ts : List Int} (wf : WF most us ts) (h : List Int) : canM us h 0 = true := by
  have h1 := wf.one
  have := wf.use 0 us[0] (List.getElem?_eq_getElem (by omega))
  have hn : us[0] = [] := List.eq_nil_of_length_eq_zero (by have := this.len; omega)
  unfold canM usAt
  simp [show 0 < us.length by omega, hn]
/-- what the search holds after i turns -/
def Pick (us : List (List Int)) (h : List Int) (s0 i : Nat) (s : Nat) : Prop := s < us.length ∧ (canM us h s = true ∨ (s = (s0 + i) % us.length ∧ ∀ j, j < i → canM us h (((s0 + j) % us.length : Nat) : Int) = false))
theorem Pick.zero {us h s0} (hn : 0 < us.length) (hs : s0 < us.length) : Pick us h s0 0 s0 := ⟨hs, .inr ⟨by rw [Nat.add_zero, Nat.mod_eq_of_lt hs], fun j hj => absurd hj (Nat.not_lt_zero j)⟩⟩
theorem Pick.keep {us h s0 i s} (p : Pick us h s0 i s) (hc : canM us h s = true) : Pick us h s0 (i + 1) s := ⟨p.1, .inl hc⟩
theorem Pick.next {us h s0 i s} (p : Pick us h s0 i s) (hc : canM us h s = false) : Pick us h s0 (i + 1) ((s + 1) % us.length) := by
  have hn : 0 < us.length := by have := p.1; omega
  refine ⟨Nat.mod_lt _ hn, ?_⟩
  rcases p.2 with z | ⟨z1, z2⟩
  · rw [hc] at z; cases z
  · refine .inr ⟨by rw [z1, Nat.mod_add_mod, Nat.add_assoc], fun j hj => ?_⟩
    by_cases hji : j < i
    · exact z2 j hji
    · have : j = i := by omega
      rw [this, ← z1]; exact hc
theorem Pick.done {most : Nat} {us : List (List Int)} {ts : List Int} (wf : WF most us ts) {h : List Int} {s0 s : Nat} (p : Pick us h s0 us.length s) : canM us h s = true := by
  rcases p.2 with z | ⟨z1, z2⟩
  · exact z
  · have h1 := wf.one
    have hn : 0 < us.length := h1
    have hs : s0 % us.length < us.length := Nat.mod_lt _ hn
    -- the place that leads to step 0
    by_cases h0 : s0 % us.length = 0
    · have := z2 0 hn
      rw [Nat.add_zero, h0] at this
      have hc := can_zero wf h
      rw [show ((0 : Nat) : Int) = 0 from rfl, hc] at this
      cases this
    · have := z2 (us.length - s0 % us.length) (by omega)
      have e : (s0 + (us.length - s0 % us.length)) % us.length = 0 := by
        rw [Nat.add_mod, Nat.mod_eq_of_lt (show us.length - s0 % us.length < us.length by omega), show s0 % us.length + (us.length - s0 % us.length) = us.length by omega, Nat.mod_self]
      rw [e] at this
      have hc := can_zero wf h
      rw [show ((0 : Nat) : Int) = 0 from rfl, hc] at this
      cases this
theorem wf_use {most : Nat} {us : List (List Int)} {ts : List Int} (wf : WF most us ts) (hm : most ≤ 8) (s : Int) : (usAt us s).length ≤ 1000000 := by
  unfold usAt
  by_cases h : s.toNat < us.length
  · have := (wf.use s.toNat us[s.toNat] (List.getElem?_eq_getElem h)).len
    have := wf.len
    simp [h]
    omega
  · simp [h]
/-! ### rows in the order of their length, then from the left -/
section
variable {L : Type} (lt : L → L → Prop)
def lexL : List L → List L → Prop
  | x :: xs, y :: ys => lt x y ∨ (x = y ∧ lexL xs ys)
  | _, _ => False
def SL (p q : List L) : Prop := p.length < q.length ∨ (p.length = q.length ∧ lexL lt p q)
variable {lt}
theorem lexL_trans (tr : ∀ a b c, lt a b → lt b c → lt a c) : ∀ {p q r : List L}, lexL lt p q → lexL lt q r → lexL lt p r
  | [], _, _, h, _ => by cases h
  | _ :: _, [], _, h, _ => by cases h
  | _ :: _, _ :: _, [], _, h => by cases h
  | x :: xs, y :: ys, z :: zs, h, k => by
    rcases h with h | ⟨rfl, h⟩
    · rcases k with k | ⟨rfl, k⟩
      · exact .inl (tr _ _ _ h k)
      · exact .inl h
    · rcases k with k | ⟨rfl, k⟩
      · exact .inl k
      · exact .inr ⟨rfl, lexL_trans tr h k⟩
theorem SL.trans (tr : ∀ a b c, lt a b → lt b c → lt a c) {p q r : List L} (h : SL lt p q) (k : SL lt q r) : SL lt p r := by
  rcases h with h | ⟨h1, h2⟩
  · rcases k with k | ⟨k1, k2⟩
    · exact .inl (by omega)
    · exact .inl (by omega)
  · rcases k with k | ⟨k1, k2⟩
    · exact .inl (by omega)
    · exact .inr ⟨by omega, lexL_trans tr h2 k2⟩
theorem lexL_app : ∀ {p q : List L} (a b : List L), lexL lt p q → lexL lt (p ++ a) (q ++ b)
  | [], _, _, _, h => by cases h
  | _ :: _, [], _, _, h => by cases h
  | x :: xs, y :: ys, a, b, h => by
    rcases h with h | ⟨rfl, h⟩
    · exact .inl h
    · exact .inr ⟨rfl, lexL_app a b h⟩
theorem lexL_last {x y : L} (h : lt x y) : ∀ p : List L, lexL lt (p ++ [x]) (p ++ [y])
  | [] => .inl h
  | z :: p => .inr ⟨rfl, lexL_last h p⟩
theorem SL.snoc {p q : List L} (h : SL lt p q) (x y : L) : SL lt (p ++ [x]) (q ++ [y]) := by
  rcases h with h | ⟨h1, h2⟩
  · exact .inl (by simp; omega)
  · exact .inr ⟨by simp; omega, lexL_app _ _ h2⟩
theorem SL.last {x y : L} (h : lt x y) (p : List L) : SL lt (p ++ [x]) (p ++ [y]) := .inr ⟨by simp, lexL_last h p⟩
theorem SL.nil (p : List L) (x : L) : SL lt [] (p ++ [x]) := .inl (by simp)
theorem lexL_irr (ir : ∀ a, ¬ lt a a) : ∀ p : List L, ¬ lexL lt p p
  | [], h => h
  | x :: p, h => by
    rcases h with h | ⟨_, h⟩
    · exact ir x h
    · exact lexL_irr ir p h
theorem SL.irr (ir : ∀ a, ¬ lt a a) (p : List L) (h : SL lt p p) : False := by
  rcases h with h | ⟨_, h⟩
  · omega
  · exact lexL_irr ir p h
theorem SL.len {p q : List L} (h : p = q ∨ SL lt p q) : p.length ≤ q.length := by
  rcases h with rfl | h | h
  · exact Nat.le_refl _
  · omega
  · omega
end
/-! ### searching level by level -/
section
variable {C L : Type} [DecidableEq C]
def tget (T : List (C × List L)) (c : C) : Option (List L) := (T.find? fun p => decide (p.1 = c)).map (·.2)
theorem tget_cons (e : C × List L) (T : List (C × List L)) (c : C) : tget (e :: T) c = if e.1 = c then some e.2 else tget T c := by
  unfold tget
  by_cases h : e.1 = c <;> simp [List.find?_cons, h]
theorem tget_app (T U : List (C × List L)) (c : C) : tget (T ++ U) c = (tget T c).or (tget U c) := by
  induction T with
  | nil => rfl
  | cons e T ih => rw [List.cons_append, tget_cons, tget_cons, ih]; split <;> rfl
theorem tget_mem {T : List (C × List L)} {c : C} {p : List L} (h : tget T c = some p) : (c, p) ∈ T := by
  induction T with
  | nil => cases h
  | cons e T ih =>
    rw [tget_cons] at h
    split at h
    · rename_i he
      cases h; subst he; exact List.mem_cons_self
    · exact List.mem_cons_of_mem _ (ih h)
theorem tget_none {T : List (C × List L)} {c : C} (h : tget T c = none) : ∀ e ∈ T, e.1 ≠ c := by
  induction T with
  | nil => simp
  | cons e T ih =>
    rw [tget_cons] at h
    split at h
    · cases h
    · rename_i he
      intro f hf
      rcases List.mem_cons.mp hf with rfl | hf
      · exact he
      · exact ih h f hf
theorem tget_of {T : List (C × List L)} {c : C} {p : List L} (n : (T.map (·.1)).Nodup) (h : (c, p) ∈ T) : tget T c = some p := by
  induction T with
  | nil => cases h
  | cons e T ih =>
    rw [List.map_cons, List.nodup_cons] at n
    rw [tget_cons]
    rcases List.mem_cons.mp h with rfl | h
    · rw [if_pos rfl]
    · rw [if_neg fun z => n.1 (by rw [z]; exact List.mem_map.mpr ⟨_, h, rfl⟩)]
      exact ih n.2 h
theorem tget_absent {T : List (C × List L)} {c : C} (h : ∀ e ∈ T, e.1 ≠ c) : tget T c = none := by
  cases e : tget T c with
  | none => rfl
  | some p => exact absurd rfl (h _ (tget_mem e))
variable (succ : C → List (L × C))
def addB (p : List L) (T : List (C × List L)) (e : L × C) : List (C × List L) := if (tget T e.2).isSome = true then T else T ++ [(e.2, p ++ [e.1])]
def expB (T : List (C × List L)) (c : C) (p : List L) : List (C × List L) := (succ c).foldl (addB p) T
def runB : Nat → List (C × List L) → Nat → List (C × List L)
  | 0, T, _ => T
  | k + 1, T, i => match T[i]? with
    | none => T
    | some e => runB k (expB succ T e.1 e.2) (i + 1)
def seekB (g : C) : Nat → List (C × List L) → Nat → Option (List L)
  | 0, _, _ => none
  | k + 1, T, i => match T[i]? with
    | none => none
    | some e => if e.1 = g then some e.2 else seekB g k (expB succ T e.1 e.2) (i + 1)
inductive Path (c0 : C) : List L → C → Prop
  | nil : Path c0 [] c0
  | snoc {p : List L} {c d : C} {l : L} : Path c0 p c → (l, d) ∈ succ c → Path c0 (p ++ [l]) d
variable {succ}
theorem addB_pre (p : List L) (T : List (C × List L)) (e : L × C) : T <+: addB p T e := by
  unfold addB
  split
  · exact List.prefix_refl _
  · exact List.prefix_append _ _
theorem fold_pre (p : List L) : ∀ (es : List (L × C)) (T : List (C × List L)), T <+: es.foldl (addB p) T
  | [], T => List.prefix_refl _
  | e :: es, T => (addB_pre p T e).trans (fold_pre p es _)
theorem expB_pre (T : List (C × List L)) (c : C) (p : List L) : T <+: expB succ T c p := fold_pre p _ T
theorem runB_pre : ∀ (k : Nat) (T : List (C × List L)) (i : Nat), T <+: runB succ k T i
  | 0, T, i => List.prefix_refl _
  | k + 1, T, i => by
    unfold runB
    split
    · exact List.prefix_refl _
    · exact (expB_pre T _ _).trans (runB_pre k _ _)
theorem addB_nodup {p : List L} {T : List (C × List L)} {e : L × C} (n : (T.map (·.1)).Nodup) : ((addB p T e).map (·.1)).Nodup := by
  unfold addB
  split
  · exact n
  · rename_i h
    rw [List.map_append, List.nodup_append]
    refine ⟨n, by simp, fun a ha b hb => ?_⟩
    obtain ⟨x, hx, rfl⟩ := List.mem_map.mp ha
    simp at hb
    subst hb
    have : tget T e.2 = none := by
      cases z : tget T e.2 with
      | none => rfl
      | some q => rw [z] at h; simp at h
    exact tget_none this x hx
theorem fold_nodup {p : List L} : ∀ (es : List (L × C)) {T : List (C × List L)}, (T.map (·.1)).Nodup → ((es.foldl (addB p) T).map (·.1)).Nodup
  | [], _, n => n
  | e :: es, _, n => fold_nodup es (addB_nodup n)
theorem tget_pre {T U : List (C × List L)} {c : C} {p : List L} (h : T <+: U) (e : tget T c = some p) : tget U c = some p := by
  obtain ⟨V, rfl⟩ := h
  rw [tget_app, e]
  rfl
/-- the plan that is found is the one in the whole table -/
theorem seek_run (g : C) : ∀ (k : Nat) (T : List (C × List L)) (i : Nat), (T.map (·.1)).Nodup → (∀ j e, j < i → T[j]? = some e → e.1 ≠ g) → (runB succ k T i).length < k + i → i ≤ T.length → seekB succ g k T i = tget (runB succ k T i) g
  | 0, T, i, n, hb, hl, hi => by
    unfold runB at hl
    omega
  | k + 1, T, i, n, hb, hl, hi => by
    unfold seekB runB
    cases e : T[i]? with
    | none =>
      have hge : T.length ≤ i := List.getElem?_eq_none_iff.mp e
      simp only
      refine (tget_absent fun f hf => ?_).symm
      obtain ⟨j, hj⟩ := List.mem_iff_getElem?.mp hf
      exact hb j f (by have := (List.getElem?_eq_some_iff.mp hj).1; omega) hj
    | some f =>
      simp only
      by_cases c : f.1 = g
      · rw [if_pos c]
        refine (tget_pre ((expB_pre (succ := succ) T f.1 f.2).trans (runB_pre k _ _)) (tget_of n ?_)).symm
        have := List.mem_of_getElem? e
        rw [← c]; exact this
      · rw [if_neg c]
        unfold runB at hl
        rw [e] at hl
        simp only at hl
        have hil := (List.getElem?_eq_some_iff.mp e).1
        have hp := expB_pre (succ := succ) T f.1 f.2
        refine seek_run g k _ (i + 1) (fold_nodup _ n) (fun j e' hj he' => ?_) (by omega) (by have := hp.length_le; omega)
        obtain ⟨V, hV⟩ := hp
        have hj2 : j < T.length := by omega
        rw [← hV, List.getElem?_append_left hj2] at he'
        by_cases hji : j < i
        · exact hb j e' hji he'
        · have : j = i := by omega
          subst this
          rw [e] at he'
          cases he'
          exact c
/-! the table is right -/
variable (lt : L → L → Prop)
structure Mid (c0 : C) (T : List (C × List L)) : Prop where
  nodup : (T.map (·.1)).Nodup
  sound : ∀ e ∈ T, Path succ c0 e.2 e.1
  sorted : (T.map (·.2)).Pairwise (SL lt)
structure Bfs (c0 : C) (T : List (C × List L)) (i : Nat) : Prop where
  mid : Mid (succ := succ) lt c0 T
  head : (c0, []) ∈ T
  closed : ∀ j e, j < i → T[j]? = some e → ∀ x ∈ succ e.1, ∃ q, tget T x.2 = some q ∧ (q = e.2 ++ [x.1] ∨ SL lt q (e.2 ++ [x.1]))
  bound : ∀ e ∈ T, e.2 = [] ∨ ∃ q l, e.2 = q ++ [l] ∧ ∃ j f, j < i ∧ T[j]? = some f ∧ f.2 = q
variable {lt}
structure Exp (c0 : C) (p : List L) (T : List (C × List L)) (done : List (L × C)) : Prop where
  mid : Mid (succ := succ) lt c0 T
  bound : ∀ e ∈ T, e.2 = [] ∨ ∃ q l, e.2 = q ++ [l] ∧ (SL lt q p ∨ (q = p ∧ ∃ d, (l, d) ∈ done))
  closed : ∀ x ∈ done, ∃ q, tget T x.2 = some q ∧ (q = p ++ [x.1] ∨ SL lt q (p ++ [x.1]))
theorem Exp.below {c0 : C} {p : List L} {T : List (C × List L)} {done : List (L × C)} (h : Exp (succ := succ) (lt := lt) c0 p T done) {x : L × C} (hx : ∀ y ∈ done, lt y.1 x.1) : ∀ e ∈ T, SL lt e.2 (p ++ [x.1]) := by
  intro e he
  rcases h.bound e he with z | ⟨q, l, z, w | ⟨rfl, d, hd⟩⟩
  · rw [z]; exact SL.nil _ _
  · rw [z]; exact w.snoc _ _
  · rw [z]; exact SL.last (hx _ hd) _
theorem Exp.step {c0 : C} {p : List L} {T : List (C × List L)} {done : List (L × C)} {c : C} (hp : Path succ c0 p c) (h : Exp (succ := succ) (lt := lt) c0 p T done) {x : L × C} (hs : x ∈ succ c) (hx : ∀ y ∈ done, lt y.1 x.1) :
    Exp (succ := succ) (lt := lt) c0 p (addB p T x) (done ++ [x]) := by
  have bl := h.below hx
  unfold addB
  cases e : tget T x.2 with
  | some q =>
    simp only [Option.isSome_some, if_true]
    refine ⟨h.mid, fun f hf => ?_, fun y hy => ?_⟩
    · rcases h.bound f hf with z | ⟨q, l, z, w | ⟨w, d, hd⟩⟩
      · exact .inl z
      · exact .inr ⟨q, l, z, .inl w⟩
      · exact .inr ⟨q, l, z, .inr ⟨w, d, List.mem_append_left _ hd⟩⟩
    · rcases List.mem_append.mp hy with hy | hy
      · exact h.closed y hy
      · rw [List.mem_singleton.mp hy]
        exact ⟨q, e, .inr (bl _ (tget_mem e))⟩
  | none =>
    simp only [Option.isSome_none, Bool.false_eq_true, if_false]
    refine ⟨⟨?_, fun f hf => ?_, ?_⟩, fun f hf => ?_, fun y hy => ?_⟩
    · have := addB_nodup (p := p) (e := x) h.mid.nodup
      unfold addB at this
      rw [e] at this
      simpa using this
    · rcases List.mem_append.mp hf with hf | hf
      · exact h.mid.sound f hf
      · rw [List.mem_singleton.mp hf]; exact .snoc hp hs
    · rw [List.map_append, List.pairwise_append]
      refine ⟨h.mid.sorted, by simp, fun a ha b hb => ?_⟩
      obtain ⟨f, hf, rfl⟩ := List.mem_map.mp ha
      simp at hb
      subst hb
      exact bl f hf
    · rcases List.mem_append.mp hf with hf | hf
      · rcases h.bound f hf with z | ⟨q, l, z, w | ⟨w, d, hd⟩⟩
        · exact .inl z
        · exact .inr ⟨q, l, z, .inl w⟩
        · exact .inr ⟨q, l, z, .inr ⟨w, d, List.mem_append_left _ hd⟩⟩
      · rw [List.mem_singleton.mp hf]
        exact .inr ⟨p, x.1, rfl, .inr ⟨rfl, x.2, List.mem_append_right _ (List.mem_singleton.mpr rfl)⟩⟩
    · rcases List.mem_append.mp hy with hy | hy
      · obtain ⟨q, q1, q2⟩ := h.closed y hy
        exact ⟨q, tget_pre (List.prefix_append _ _) q1, q2⟩
      · rw [List.mem_singleton.mp hy]
        refine ⟨p ++ [x.1], ?_, .inl rfl⟩
        rw [tget_app, e, tget_cons, if_pos rfl]
        rfl
theorem Exp.all {c0 : C} {p : List L} {c : C} (hp : Path succ c0 p c) : ∀ (es done : List (L × C)) (T : List (C × List L)), (∀ x ∈ es, x ∈ succ c) → (done ++ es).Pairwise (fun a b => lt a.1 b.1) → Exp (succ := succ) (lt := lt) c0 p T done → Exp (succ := succ) (lt := lt) c0 p (es.foldl (addB p) T) (done ++ es)
  | [], done, T, _, _, h => by rw [List.append_nil]; exact h
  | x :: es, done, T, hs, hw, h => by
    have h2 := Exp.step hp h (hs x List.mem_cons_self) (fun y hy => (List.pairwise_append.mp hw).2.2 y hy x List.mem_cons_self)
    have := Exp.all hp es (done ++ [x]) (addB p T x) (fun y hy => hs y (List.mem_cons_of_mem _ hy)) (by rw [List.append_assoc]; exact hw) h2
    rw [List.append_assoc] at this
    exact this
theorem Bfs.next (ir : ∀ a, ¬ lt a a) {c0 : C} {T : List (C × List L)} {i : Nat} (hord : ∀ c, (succ c).Pairwise (fun a b => lt a.1 b.1)) (b : Bfs (succ := succ) lt c0 T i) {e : C × List L} (he : T[i]? = some e) : Bfs (succ := succ) lt c0 (expB succ T e.1 e.2) (i + 1) := by
  have hp := b.mid.sound e (List.mem_of_getElem? he)
  have hil := (List.getElem?_eq_some_iff.mp he).1
  have h0 : Exp (succ := succ) (lt := lt) c0 e.2 T [] := ⟨b.mid, fun f hf => by
    rcases b.bound f hf with z | ⟨q, l, z, j, g, hj, hg, hq⟩
    · exact .inl z
    · refine .inr ⟨q, l, z, .inl ?_⟩
      have h1 : (T.map (·.2))[j]? = some q := by rw [List.getElem?_map, hg]; exact congrArg some hq
      have h2 : (T.map (·.2))[i]? = some e.2 := by rw [List.getElem?_map, he]; rfl
      obtain ⟨a1, a2⟩ := List.getElem?_eq_some_iff.mp h1
      obtain ⟨b1, b2⟩ := List.getElem?_eq_some_iff.mp h2
      rw [← a2, ← b2]
      exact List.pairwise_iff_getElem.mp b.mid.sorted j i a1 b1 hj, fun _ h => absurd h (by simp)⟩
  have h1 := Exp.all hp (succ e.1) [] T (fun _ h => h) (by simpa using hord e.1) h0
  rw [List.nil_append] at h1
  have pre := expB_pre (succ := succ) T e.1 e.2
  have at' : ∀ j, j ≤ i → (expB succ T e.1 e.2)[j]? = T[j]? := fun j hj => by
    obtain ⟨V, hV⟩ := pre
    rw [← hV, List.getElem?_append_left (by omega)]
  refine ⟨h1.mid, pre.subset b.head, fun j f hj hf x hx => ?_, fun f hf => ?_⟩
  · rw [at' j (by omega)] at hf
    by_cases hji : j < i
    · obtain ⟨q, q1, q2⟩ := b.closed j f hji hf x hx
      exact ⟨q, tget_pre pre q1, q2⟩
    · have : j = i := by omega
      subst this
      rw [he] at hf
      cases hf
      exact h1.closed x hx
  · rcases h1.bound f hf with z | ⟨q, l, z, w | ⟨w, d, hd⟩⟩
    · exact .inl z
    · obtain ⟨V, hV⟩ : T <+: expB succ T e.1 e.2 := pre
      by_cases hfT : f ∈ T
      · rcases b.bound f hfT with z | ⟨q, l, z, j, g, hj, hg, hq⟩
        · exact .inl z
        · exact .inr ⟨q, l, z, j, g, by omega, by rw [at' j (by omega)]; exact hg, hq⟩
      · -- a new one has the plan of e ahead of its last
        exfalso
        have : ∀ (es : List (L × C)) (U : List (C × List L)), f ∈ es.foldl (addB e.2) U → f ∉ U → ∃ l, f.2 = e.2 ++ [l] := by
          intro es
          induction es with
          | nil => intro U h1 h2; exact absurd h1 h2
          | cons x es ih =>
            intro U h1 h2
            by_cases hU : f ∈ addB e.2 U x
            · unfold addB at hU
              split at hU
              · exact absurd hU h2
              · rcases List.mem_append.mp hU with h3 | h3
                · exact absurd h3 h2
                · rw [List.mem_singleton.mp h3]; exact ⟨_, rfl⟩
            · exact ih _ h1 hU
        obtain ⟨l', hl'⟩ := this _ _ hf hfT
        rw [hl'] at z
        obtain ⟨z1, z2⟩ := List.append_inj' z rfl
        rw [← z1] at w
        rcases w with w | w
        · omega
        · exact lexL_irr ir _ w.2
    · exact .inr ⟨q, l, z, i, e, by omega, by rw [at' i (Nat.le_refl _)]; exact he, w.symm⟩
theorem Bfs.run (ir : ∀ a, ¬ lt a a) {c0 : C} (hord : ∀ c, (succ c).Pairwise (fun a b => lt a.1 b.1)) (N : Nat) (hN : ∀ U, Mid (succ := succ) lt c0 U → U.length ≤ N) : ∀ (k : Nat) (T : List (C × List L)) (i : Nat), Bfs (succ := succ) lt c0 T i → N < k + i → i ≤ T.length → Bfs (succ := succ) lt c0 (runB succ k T i) (runB succ k T i).length
  | 0, T, i, b, h, hi => by
    have := hN T b.mid
    omega
  | k + 1, T, i, b, h, hi => by
    unfold runB
    cases e : T[i]? with
    | none =>
      have hge : T.length ≤ i := List.getElem?_eq_none_iff.mp e
      have : i = T.length := by omega
      simp only
      rw [← this]; exact b
    | some f =>
      simp only
      have hil := (List.getElem?_eq_some_iff.mp e).1
      have hp := (expB_pre (succ := succ) T f.1 f.2).length_le
      exact Bfs.run ir hord N hN k _ (i + 1) (b.next ir hord e) (by omega) (by omega)
theorem Bfs.first (c0 : C) : Bfs (succ := succ) lt c0 [(c0, [])] 0 :=
  ⟨⟨by simp, fun e he => by rw [List.mem_singleton.mp he]; exact .nil, by simp⟩, List.mem_singleton.mpr rfl, fun j e hj => absurd hj (Nat.not_lt_zero j), fun e he => by rw [List.mem_singleton.mp he]; exact .inl rfl⟩
theorem Bfs.best {c0 : C} {T : List (C × List L)} {i : Nat} (tr : ∀ a b c, lt a b → lt b c → lt a c) (b : Bfs (succ := succ) lt c0 T i) (hi : T.length ≤ i) {p : List L} {c : C} (hp : Path succ c0 p c) : ∃ q, tget T c = some q ∧ (q = p ∨ SL lt q p) := by
  induction hp with
  | nil => exact ⟨[], tget_of b.mid.nodup b.head, .inl rfl⟩
  | @snoc p c d l hp hs ih =>
    obtain ⟨q0, h1, h2⟩ := ih
    obtain ⟨j, hj⟩ := List.mem_iff_getElem?.mp (tget_mem h1)
    obtain ⟨q, q1, q2⟩ := b.closed j _ (by have := (List.getElem?_eq_some_iff.mp hj).1; omega) hj (l, d) hs
    refine ⟨q, q1, ?_⟩
    simp only at q2
    rcases h2 with rfl | h2
    · exact q2
    · rcases q2 with rfl | q2
      · exact .inr (h2.snoc _ _)
      · exact .inr (q2.trans tr (h2.snoc _ _))
/-- the whole table -/
structure Tab (lt : L → L → Prop) (c0 : C) (T : List (C × List L)) : Prop where
  nodup : (T.map (·.1)).Nodup
  sound : ∀ c q, tget T c = some q → Path succ c0 q c
  best : ∀ p c, Path succ c0 p c → ∃ q, tget T c = some q ∧ (q = p ∨ SL lt q p)
theorem tab_ok (ir : ∀ a, ¬ lt a a) (tr : ∀ a b c, lt a b → lt b c → lt a c) {c0 : C} (hord : ∀ c, (succ c).Pairwise (fun a b => lt a.1 b.1)) (N k : Nat) (hN : ∀ U, Mid (succ := succ) lt c0 U → U.length ≤ N) (hk : N < k) : Tab (succ := succ) lt c0 (runB succ k [(c0, [])] 0) ∧ (runB succ k [(c0, [])] 0).length ≤ N := by
  have b := Bfs.run ir hord N hN k _ 0 (Bfs.first c0) (by omega) (by simp)
  exact ⟨⟨b.mid.nodup, fun c q h => b.mid.sound _ (tget_mem h), fun p c h => b.best tr (Nat.le_refl _) h⟩, hN _ b.mid⟩
end
/-! ### the moves within registers -/
def okM (us : List (List Int)) (r : Nat) (c : List Int) (m : Nat) : Bool := canM us c m && decide ((movM c m).length ≤ r)
def succM (us : List (List Int)) (r : Nat) (c : List Int) : List (Int × List Int) := ((List.range us.length).filter (okM us r c)).map fun m : Nat => ((m : Int), movM c m)
theorem succM_mem {us : List (List Int)} {r : Nat} {c d : List Int} {l : Int} : (l, d) ∈ succM us r c ↔ (0 ≤ l ∧ l < us.length ∧ canM us c l = true ∧ (movM c l).length ≤ r) ∧ d = movM c l := by
  unfold succM okM
  rw [List.mem_map]
  constructor
  · rintro ⟨m, hm, e⟩
    cases e
    have := List.mem_filter.mp hm
    have h1 := List.mem_range.mp this.1
    have h2 := this.2
    simp at h2
    exact ⟨⟨by omega, by omega, h2.1, h2.2⟩, rfl⟩
  · rintro ⟨⟨h1, h2, h3, h4⟩, rfl⟩
    have e : ((l.toNat : Nat) : Int) = l := by omega
    refine ⟨l.toNat, List.mem_filter.mpr ⟨List.mem_range.mpr (by omega), ?_⟩, by rw [e]⟩
    rw [e, h3, decide_eq_true h4]; rfl
theorem succM_ord (us : List (List Int)) (r : Nat) (c : List Int) : (succM us r c).Pairwise (fun a b => a.1 < b.1) := by
  unfold succM
  rw [List.pairwise_map]
  refine List.Pairwise.filter _ (List.Pairwise.imp (fun h => ?_) List.pairwise_lt_range)
  simp only
  omega
/-- a plan within registers -/
def okR (us : List (List Int)) (r : Nat) : List Int → List Int → Prop
  | _, [] => True
  | h, s :: t => (0 ≤ s ∧ s < us.length ∧ canM us h s = true ∧ (movM h s).length ≤ r) ∧ okR us r (movM h s) t
theorem okR_snoc {us : List (List Int)} {r : Nat} {s : Int} : ∀ {p h : List Int}, okR us r h (p ++ [s]) ↔ okR us r h p ∧ (0 ≤ s ∧ s < us.length ∧ canM us (endM h p) s = true ∧ (movM (endM h p) s).length ≤ r)
  | [], h => by
    show (_ ∧ True) ↔ (True ∧ _)
    simp only [and_true, true_and]
    exact Iff.rfl
  | x :: p, h => by
    show (_ ∧ okR us r (movM h x) (p ++ [s])) ↔ ((_ ∧ okR us r (movM h x) p) ∧ _)
    rw [okR_snoc]
    exact and_assoc.symm
theorem okR_good {us : List (List Int)} {r : Nat} : ∀ {p h : List Int}, okR us r h p → goodM us h p
  | [], _, _ => trivial
  | _ :: _, _, k => ⟨⟨k.1.1, k.1.2.1, k.1.2.2.1⟩, okR_good k.2⟩
theorem snoc_ind {P : List Int → Prop} (h0 : P []) (hs : ∀ p s, P p → P (p ++ [s])) : ∀ p, P p := fun p => by
  have : ∀ n (p : List Int), p.length = n → P p := by
    intro n
    induction n with
    | zero => intro p hp; rw [List.eq_nil_of_length_eq_zero hp]; exact h0
    | succ n ih =>
      intro p hp
      rcases List.eq_nil_or_concat p with rfl | ⟨q, s, rfl⟩
      · simp at hp
      · rw [List.concat_eq_append] at hp ⊢
        exact hs q s (ih q (by simpa using hp))
  exact this p.length p rfl
theorem path_iff {us : List (List Int)} {r : Nat} {h0 : List Int} {p c : List Int} : Path (succM us r) h0 p c ↔ okR us r h0 p ∧ endM h0 p = c := by
  constructor
  · intro hp
    induction hp with
    | nil => exact ⟨trivial, rfl⟩
    | snoc hp hs ih =>
      obtain ⟨h1, h2⟩ := succM_mem.mp hs
      rw [okR_snoc, end_snoc, ih.2]
      exact ⟨⟨ih.1, h1⟩, h2.symm⟩
  · rintro ⟨h1, rfl⟩
    induction p using snoc_ind with
    | h0 => exact .nil
    | hs p s ih =>
      rw [okR_snoc] at h1
      rw [end_snoc]
      exact .snoc (ih h1.1) (succM_mem.mpr ⟨h1.2, rfl⟩)
/-! how many configurations there are -/
def Cf (n : Nat) (c : List Int) : Prop := Up c ∧ ∀ x ∈ c, 0 ≤ x ∧ x < n
theorem Cf.mov {n : Nat} {c : List Int} (h : Cf n c) {s : Int} (h0 : 0 ≤ s) (h1 : s < n) : Cf n (movM c s) := by
  refine ⟨movM_up h.1 s, fun x hx => ?_⟩
  rw [mem_movM] at hx
  split at hx
  · exact h.2 x hx.1
  · rcases hx with hx | rfl
    · exact h.2 x hx
    · exact ⟨h0, h1⟩
theorem Cf.path {us : List (List Int)} {r : Nat} {h0 p c : List Int} (h : Cf us.length h0) (hp : Path (succM us r) h0 p c) : Cf us.length c := by
  induction hp with
  | nil => exact h
  | snoc _ hs ih =>
    obtain ⟨h1, rfl⟩ := succM_mem.mp hs
    exact ih.mov h1.1 h1.2.1
theorem cf_last {n : Nat} {c : List Int} (h : Cf (n + 1) c) : ((n : Int) ∉ c ∧ Cf n c) ∨ ∃ d, c = d ++ [(n : Int)] ∧ Cf n d := by
  by_cases hn : (n : Int) ∈ c
  · right
    rcases List.eq_nil_or_concat c with rfl | ⟨d, x, rfl⟩
    · simp at hn
    · rw [List.concat_eq_append] at h hn ⊢
      have hp := List.pairwise_append.mp h.1
      have hx := h.2 x (by simp)
      have e : x = (n : Int) := by
        rcases List.mem_append.mp hn with z | z
        · have := hp.2.2 _ z x (by simp); omega
        · exact (List.mem_singleton.mp z).symm
      subst e
      refine ⟨d, rfl, hp.1, fun y hy => ?_⟩
      have := hp.2.2 y hy (n : Int) (by simp)
      have := h.2 y (List.mem_append_left _ hy)
      omega
  · left
    refine ⟨hn, h.1, fun x hx => ?_⟩
    have := h.2 x hx
    have : x ≠ (n : Int) := fun z => hn (z ▸ hx)
    omega
theorem filter_two {α : Type} (p : α → Bool) : ∀ l : List α, l.length = (l.filter p).length + (l.filter fun x => !p x).length
  | [] => rfl
  | x :: l => by
    have := filter_two p l
    by_cases h : p x = true
    · simp [List.filter_cons, h]; omega
    · simp at h; simp [List.filter_cons, h]; omega
theorem cf_count : ∀ (n : Nat) (l : List (List Int)), l.Nodup → (∀ c ∈ l, Cf n c) → l.length ≤ 2 ^ n
  | 0, l, nd, h => by
    have : ∀ c ∈ l, c = [] := fun c hc => by
      cases c with
      | nil => rfl
      | cons x c => have := (h _ hc).2 x List.mem_cons_self; omega
    cases l with
    | nil => simp
    | cons a l =>
      cases l with
      | nil => simp
      | cons b l =>
        have h1 := this a (by simp)
        have h2 := this b (by simp)
        rw [h1, h2] at nd
        simp at nd
  | n + 1, l, nd, h => by
    have e := filter_two (fun c : List Int => decide ((n : Int) ∈ c)) l
    have h1 : (l.filter fun c => !decide ((n : Int) ∈ c)).length ≤ 2 ^ n := by
      refine cf_count n _ (nd.filter _) fun c hc => ?_
      have := List.mem_filter.mp hc
      rcases cf_last (h c this.1) with z | ⟨d, z, _⟩
      · exact z.2
      · have h2 := this.2
        rw [z] at h2
        simp at h2
    have h2 : (l.filter fun c => decide ((n : Int) ∈ c)).length ≤ 2 ^ n := by
      have := cf_count n ((l.filter fun c => decide ((n : Int) ∈ c)).map List.dropLast) ?_ ?_
      · simpa using this
      · have nd2 := nd.filter (fun c : List Int => decide ((n : Int) ∈ c))
        unfold List.Nodup
        rw [List.pairwise_map]
        refine List.Pairwise.imp_of_mem (fun {a b} ha hb hab e => hab ?_) nd2
        have ma := List.mem_filter.mp ha
        have mb := List.mem_filter.mp hb
        simp at ma mb
        rcases cf_last (h a ma.1) with z | ⟨d, rfl, _⟩
        · exact absurd ma.2 z.1
        · rcases cf_last (h b mb.1) with z | ⟨d', rfl, _⟩
          · exact absurd mb.2 z.1
          · simp at e
            rw [e]
      · intro c hc
        obtain ⟨a, ha, rfl⟩ := List.mem_map.mp hc
        have ma := List.mem_filter.mp ha
        simp at ma
        rcases cf_last (h a ma.1) with z | ⟨d, rfl, hd⟩
        · exact absurd ma.2 z.1
        · simpa using hd
    rw [e, Nat.pow_succ]
    omega
/-- the table of a start -/
def tabM (us : List (List Int)) (r : Nat) (h0 : List Int) : List (List Int × List Int) := runB (succM us r) 300 [(h0, [])] 0
theorem tabM_ok {us : List (List Int)} {r : Nat} {h0 : List Int} (hu : us.length ≤ 8) (hc : Cf us.length h0) : Tab (succ := succM us r) (· < ·) h0 (tabM us r h0) ∧ (tabM us r h0).length ≤ 256 := by
  refine tab_ok (lt := fun a b : Int => a < b) (fun a => by omega) (fun a b c => by omega) (fun c => succM_ord us r c) 256 300 (fun U m => ?_) (by omega)
  have h1 := cf_count us.length (U.map (·.1)) m.nodup fun c hc' => by
    obtain ⟨e, he, rfl⟩ := List.mem_map.mp hc'
    exact hc.path (m.sound e he)
  rw [List.length_map] at h1
  have : 2 ^ us.length ≤ 2 ^ 8 := Nat.pow_le_pow_right (by omega) hu
  omega
/-- what the search for a goal finds -/
def planM (us : List (List Int)) (r : Nat) (h0 g : List Int) : Option (List Int) := tget (tabM us r h0) g
theorem planM_seek {us : List (List Int)} {r : Nat} {h0 : List Int} (g : List Int) (hu : us.length ≤ 8) (hc : Cf us.length h0) : seekB (succM us r) g 300 [(h0, [])] 0 = planM us r h0 g := by
  have := (tabM_ok (r := r) hu hc).2
  exact seek_run g 300 _ 0 (by simp) (fun j e hj => absurd hj (Nat.not_lt_zero j)) (by unfold tabM at this; omega) (by simp)
theorem planM_sound {us : List (List Int)} {r : Nat} {h0 g q : List Int} (hu : us.length ≤ 8) (hc : Cf us.length h0) (h : planM us r h0 g = some q) : okR us r h0 q ∧ endM h0 q = g := path_iff.mp ((tabM_ok hu hc).1.sound _ _ h)
theorem planM_best {us : List (List Int)} {r : Nat} {h0 p : List Int} (hu : us.length ≤ 8) (hc : Cf us.length h0) (h : okR us r h0 p) : ∃ q, planM us r h0 (endM h0 p) = some q ∧ (q = p ∨ SL (· < ·) q p) := (tabM_ok hu hc).1.best _ _ (path_iff.mpr ⟨h, rfl⟩)
/-! ### transitions, and the search, walked -/
def encP (T : List (List Int × List Int)) : List (List Int × PyData) := T.map fun e => (e.1, .list (e.2.map .int))
def encD (T : List (List Int × List Int)) : List (List Int × PyData) := T.map fun e => (e.1, .int (e.2.length : Int))
def encQ (T : List (List Int × List Int)) : List PyData := T.map fun e => tupD e.1
theorem dGet_map (f : List Int → PyData) (T : List (List Int × List Int)) (k : List Int) : dGet (T.map fun e => (e.1, f e.2)) k = (tget T k).map f := by
  induction T with
  | nil => rfl
  | cons e T ih => rw [List.map_cons, dGet_cons, tget_cons, ih]; split <;> rfl
theorem dGet_P (T : List (List Int × List Int)) (k : List Int) : dGet (encP T) k = (tget T k).map fun p => .list (p.map .int) := dGet_map (fun p => .list (p.map .int)) T k
theorem dGet_D (T : List (List Int × List Int)) (k : List Int) : dGet (encD T) k = (tget T k).map fun p => .int (p.length : Int) := dGet_map (fun p => .int (p.length : Int)) T k
def encM (es : List (Int × List Int)) : List PyData := es.map fun e => .tuple [.int e.1, tupD e.2]
theorem trans_ok (us : List (List Int)) (ts h : List Int) (r : Nat) (hu : us.length ≤ 1000) (hl : h.length ≤ 900) : F_transitions [.d (encT us ts), .d (tupD h), .d (.int r)] = .ok (.ol (encM (succM us r h))) := by
  have h0 : gIx (.d (encT us ts)) (.d (.int 0)) = .ok (.d (.tuple (encU us))) := rfl
  have main : ∀ (ms : List Nat) (acc : List (Int × List Int)) (e4 e5 : Option RV), (∀ m ∈ ms, m < us.length) → acc.length + ms.length ≤ 1000 → ∃ e4' e5', loopF (.nm 4) L0_transitions (ms.map natI) [some (.d (encT us ts)), some (.d (tupD h)), some (.d (.int r)), some (.ol (encM acc)), e4, e5]
      = .nx [some (.d (encT us ts)), some (.d (tupD h)), some (.d (.int r)), some (.ol (encM (acc ++ (ms.filter (okM us r h)).map fun m : Nat => ((m : Int), movM h m)))), e4', e5'] := by
    intro ms
    induction ms with
    | nil => intro acc e4 e5 _ _; exact ⟨e4, e5, by simp⟩
    | cons m ms ih =>
      intro acc e4 e5 hm hz
      rw [List.length_cons] at hz
      have hm0 := hm m List.mem_cons_self
      have p1 := possible_ok us ts h m (by omega) (by omega)
      have p1 : F_is_possible [.d (encT us ts), .d (tupD h), .d (.int m)] = _ := p1
      have p2 : F_moved [.d (tupD h), .d (.int m)] = .ok (.d (tupD (movM h m))) := moved_ok h m (by omega)
      have hln : gLen [.d (tupD (movM h m))] = .ok (.d (.int (movM h m).length)) := by rw [tupD, e_lenT, List.length_map]
      have hz1 : acc.length ≤ 1000000 := by omega
      rw [List.map_cons, loopF_cons]
      generalize hX : L0_transitions _ = X
      have ht : tgE (.nm 4) (natI m) [some (.d (encT us ts)), some (.d (tupD h)), some (.d (.int r)), some (.ol (encM acc)), e4, e5] = some [some (.d (encT us ts)), some (.d (tupD h)), some (.d (.int r)), some (.ol (encM acc)), some (.d (.int m)), e5] := rfl
      rw [ht]
      have el : (encM acc).length = acc.length := List.length_map ..
      by_cases c1 : canM us h m = true
      · by_cases c2 : (movM h m).length ≤ r
        · have ok : okM us r h m = true := by unfold okM; rw [c1, decide_eq_true c2]; rfl
          obtain ⟨e4', e5', ih⟩ := ih (acc ++ [((m : Int), movM h m)]) (some (.d (.int m))) (some (.d (tupD (movM h m)))) (fun x hx => hm x (List.mem_cons_of_mem _ hx)) (by simp; omega)
          refine ⟨e4', e5', ?_⟩
          rw [List.filter_cons_of_pos ok, List.map_cons, show acc ++ ((m : Int), movM h m) :: (ms.filter (okM us r h)).map (fun m : Nat => ((m : Int), movM h m)) = (acc ++ [((m : Int), movM h m)]) ++ (ms.filter (okM us r h)).map (fun m : Nat => ((m : Int), movM h m)) by simp, ← ih]
          have hb : L0_transitions [some (.d (encT us ts)), some (.d (tupD h)), some (.d (.int r)), some (.ol (encM acc)), some (.d (.int m)), e5] = .nx [some (.d (encT us ts)), some (.d (tupD h)), some (.d (.int r)), some (.ol (encM (acc ++ [((m : Int), movM h m)]))), some (.d (.int m)), some (.d (tupD (movM h m)))] := by
            have hdec : decide (((movM h m).length : Int) ≤ (r : Int)) = true := decide_eq_true (by omega)
            have hap : encM (acc ++ [((m : Int), movM h m)]) = encM acc ++ [.tuple [.int m, tupD (movM h m)]] := by unfold encM; rw [List.map_append]; rfl
            unfold L0_transitions
            rw [hap]
            simp only [e_nil, e_seq, e_fz, e_bk, e_ct, e_ret, e_retN, e_drop, e_set, e_if, e_for, e_cC, e_c2, e_c1, e_cA, e_aN, e_aC, e_cB, e_asB, e_bNot, e_bAnd, e_bOr, e_vAnd, e_vOr, e_vNot, e_vIf, e_bYes, e_iL, e_iT, e_iLb, e_iR, e_gL1, e_gL2, e_gL3, e_gT, e_gLb1, e_gLb2, e_gLb3, e_gLb4, e_nb1, e_nb2, e_bor1, e_bor2, e_bor3, e_bor4, e_arg1, e_arg2, e_arg3, e_arg4, e_putd, e_puto, e_toD1, e_toD2, e_allD0, e_allD1, e_allD2, e_gTupl, e_gList, e_tgnm, e_tgtp, e_tg0, e_tg1, e_sq1, e_sq2, e_sq3, e_sq4, e_sq5, e_qv2, e_qv3, e_qv4, e_qv5, e_data1, e_data2, e_data3, e_okI, e_okB, e_i2, e_sub, e_mul, e_mod, e_div, e_pow, e_lt, e_le, e_gt, e_ge, e_neg, e_addI, e_addS, e_addT, e_addL1, e_addL2, e_addL3, e_addL4, e_addL5, e_addL6, e_addL7, e_addL8, e_addL9, e_eq, e_ne, e_in, e_notIn, e_inT, e_inT2, e_inL1, e_inL2, e_inL3, e_is, e_isNot, e_isN1, e_isN2, e_isN3, e_isN4, e_isN5, e_isN6, e_isN7, e_ixT, e_ixL, e_ixO, e_ixB, e_ixSc, e_lenT, e_lenL, e_lenO, e_lenB, e_lenSc, e_lenS, e_tupT, e_tupL, e_tupO, e_tupB, e_lisT, e_lisL, e_lisO, e_lisB, e_min2, e_max2, e_any, e_all, e_sum, e_sorted, e_rev, e_sl, e_oN, e_isi, e_lc, e_wipe0, e_wipe1, e_iA, e_iAb, e_gAq1, e_gAq2, e_gAq3, e_gAqb1, e_gAqb2, e_gAqb3, e_gAqb4, e_no, e_cCh, e_cChI, e_aug, e_decT, e_decF, e_cDispS, e_cDT, e_cDK, e_cDisp1, e_storeA, e_stR1, e_stR2, e_stR3, e_sd1, e_keyD1, e_keyD2, e_keyTD, e_intsD, e_intsD0, e_borT, e_borT2, e_borK, e_borK2, e_argT, e_argT2, e_argK, e_argK2, e_nbT, e_nbK, e_putT, e_putK, e_gAt1, e_gAt2, e_gAt3, e_gAt4, e_gGetDK, e_gGetDT, e_gIxD, e_gInD, e_gNotInD, e_cGet1, e_cGet2, e_dk1, e_dk2, e_dk3, e_dk4, e_dt1, e_dt2, e_del, atI_zero, e_at1, e_at2, e_at3, e_at4, e_at5, e_at6, e_at7, e_at8, e_at9, e_atm, e_V, e_retV, e_unp, e_app, e_store, e_fzE, oS, rsO_some, Rs.bind_ok, Rs.bind_no, Rs.out_ok, Out.then_nx, Out.then_rt, Out.then_ct, Out.then_bk, fin_rt, fin_nx, List.getElem?_cons_zero, List.getElem?_cons_succ, List.set_cons_succ, List.set_cons_zero, List.length_cons, List.length_nil, Nat.reduceAdd, Nat.reduceLT, Nat.reduceLeDiff, Nat.reduceEqDiff, if_true, if_false, Bool.false_eq_true, Bool.not_true, Bool.not_false, and_self, true_and, and_true, List.map_cons, List.map_nil, Option.map_some, sh_int, sh_bool, sh_none, sh_tup, sh_lst, eqv_int, reduceIte, Option.bind_some, Option.bind_none, kitB_ll, kitB_lt, kitB_tt, kitB_tl, kitB_ii, tyD_list, tyD_int, Bool.true_and, Bool.false_and, Bool.and_true, Bool.and_false, Bool.or_true, Bool.true_or, Bool.false_or, Bool.or_false, Bool.and_self, Bool.or_self, e_cAK, List.append_nil, List.nil_append, List.cons_append, e_andB, e_orB, e_andR, e_orR, tyD_tuple, eqv_bool, eqv_none, tyD_bool, tyD_str, tyD_none, kitB_bb, kitB_nb, kitB_bi, kitB_ib, kitB_nl, kitB_nt, beq_self_eq_true, p1, c1, p2, hln, hdec, el, if_pos hz1]
          simp only [hb, lp_nx]
        · have ok : ¬ okM us r h m = true := by unfold okM; rw [c1, decide_eq_false c2]; simp
          obtain ⟨e4', e5', ih⟩ := ih acc (some (.d (.int m))) (some (.d (tupD (movM h m)))) (fun x hx => hm x (List.mem_cons_of_mem _ hx)) (by omega)
          refine ⟨e4', e5', ?_⟩
          rw [List.filter_cons_of_neg ok, ← ih]
          have hb : L0_transitions [some (.d (encT us ts)), some (.d (tupD h)), some (.d (.int r)), some (.ol (encM acc)), some (.d (.int m)), e5] = .nx [some (.d (encT us ts)), some (.d (tupD h)), some (.d (.int r)), some (.ol (encM acc)), some (.d (.int m)), some (.d (tupD (movM h m)))] := by
            have hdec : decide (((movM h m).length : Int) ≤ (r : Int)) = false := decide_eq_false (by omega)
            unfold L0_transitions
            simp only [e_nil, e_seq, e_fz, e_bk, e_ct, e_ret, e_retN, e_drop, e_set, e_if, e_for, e_cC, e_c2, e_c1, e_cA, e_aN, e_aC, e_cB, e_asB, e_bNot, e_bAnd, e_bOr, e_vAnd, e_vOr, e_vNot, e_vIf, e_bYes, e_iL, e_iT, e_iLb, e_iR, e_gL1, e_gL2, e_gL3, e_gT, e_gLb1, e_gLb2, e_gLb3, e_gLb4, e_nb1, e_nb2, e_bor1, e_bor2, e_bor3, e_bor4, e_arg1, e_arg2, e_arg3, e_arg4, e_putd, e_puto, e_toD1, e_toD2, e_allD0, e_allD1, e_allD2, e_gTupl, e_gList, e_tgnm, e_tgtp, e_tg0, e_tg1, e_sq1, e_sq2, e_sq3, e_sq4, e_sq5, e_qv2, e_qv3, e_qv4, e_qv5, e_data1, e_data2, e_data3, e_okI, e_okB, e_i2, e_sub, e_mul, e_mod, e_div, e_pow, e_lt, e_le, e_gt, e_ge, e_neg, e_addI, e_addS, e_addT, e_addL1, e_addL2, e_addL3, e_addL4, e_addL5, e_addL6, e_addL7, e_addL8, e_addL9, e_eq, e_ne, e_in, e_notIn, e_inT, e_inT2, e_inL1, e_inL2, e_inL3, e_is, e_isNot, e_isN1, e_isN2, e_isN3, e_isN4, e_isN5, e_isN6, e_isN7, e_ixT, e_ixL, e_ixO, e_ixB, e_ixSc, e_lenT, e_lenL, e_lenO, e_lenB, e_lenSc, e_lenS, e_tupT, e_tupL, e_tupO, e_tupB, e_lisT, e_lisL, e_lisO, e_lisB, e_min2, e_max2, e_any, e_all, e_sum, e_sorted, e_rev, e_sl, e_oN, e_isi, e_lc, e_wipe0, e_wipe1, e_iA, e_iAb, e_gAq1, e_gAq2, e_gAq3, e_gAqb1, e_gAqb2, e_gAqb3, e_gAqb4, e_no, e_cCh, e_cChI, e_aug, e_decT, e_decF, e_cDispS, e_cDT, e_cDK, e_cDisp1, e_storeA, e_stR1, e_stR2, e_stR3, e_sd1, e_keyD1, e_keyD2, e_keyTD, e_intsD, e_intsD0, e_borT, e_borT2, e_borK, e_borK2, e_argT, e_argT2, e_argK, e_argK2, e_nbT, e_nbK, e_putT, e_putK, e_gAt1, e_gAt2, e_gAt3, e_gAt4, e_gGetDK, e_gGetDT, e_gIxD, e_gInD, e_gNotInD, e_cGet1, e_cGet2, e_dk1, e_dk2, e_dk3, e_dk4, e_dt1, e_dt2, e_del, atI_zero, e_at1, e_at2, e_at3, e_at4, e_at5, e_at6, e_at7, e_at8, e_at9, e_atm, e_V, e_retV, e_unp, e_app, e_store, e_fzE, oS, rsO_some, Rs.bind_ok, Rs.bind_no, Rs.out_ok, Out.then_nx, Out.then_rt, Out.then_ct, Out.then_bk, fin_rt, fin_nx, List.getElem?_cons_zero, List.getElem?_cons_succ, List.set_cons_succ, List.set_cons_zero, List.length_cons, List.length_nil, Nat.reduceAdd, Nat.reduceLT, Nat.reduceLeDiff, Nat.reduceEqDiff, if_true, if_false, Bool.false_eq_true, Bool.not_true, Bool.not_false, and_self, true_and, and_true, List.map_cons, List.map_nil, Option.map_some, sh_int, sh_bool, sh_none, sh_tup, sh_lst, eqv_int, reduceIte, Option.bind_some, Option.bind_none, kitB_ll, kitB_lt, kitB_tt, kitB_tl, kitB_ii, tyD_list, tyD_int, Bool.true_and, Bool.false_and, Bool.and_true, Bool.and_false, Bool.or_true, Bool.true_or, Bool.false_or, Bool.or_false, Bool.and_self, Bool.or_self, e_cAK, List.append_nil, List.nil_append, List.cons_append, e_andB, e_orB, e_andR, e_orR, tyD_tuple, eqv_bool, eqv_none, tyD_bool, tyD_str, tyD_none, kitB_bb, kitB_nb, kitB_bi, kitB_ib, kitB_nl, kitB_nt, beq_self_eq_true, p1, c1, p2, hln, hdec]
          simp only [hb, lp_nx]
      · have c1' : canM us h m = false := by simpa using c1
        have ok : ¬ okM us r h m = true := by unfold okM; rw [c1']; simp
        obtain ⟨e4', e5', ih⟩ := ih acc (some (.d (.int m))) e5 (fun x hx => hm x (List.mem_cons_of_mem _ hx)) (by omega)
        refine ⟨e4', e5', ?_⟩
        rw [List.filter_cons_of_neg ok, ← ih]
        have hb : L0_transitions [some (.d (encT us ts)), some (.d (tupD h)), some (.d (.int r)), some (.ol (encM acc)), some (.d (.int m)), e5] = .nx [some (.d (encT us ts)), some (.d (tupD h)), some (.d (.int r)), some (.ol (encM acc)), some (.d (.int m)), e5] := by
          unfold L0_transitions
          simp only [e_nil, e_seq, e_fz, e_bk, e_ct, e_ret, e_retN, e_drop, e_set, e_if, e_for, e_cC, e_c2, e_c1, e_cA, e_aN, e_aC, e_cB, e_asB, e_bNot, e_bAnd, e_bOr, e_vAnd, e_vOr, e_vNot, e_vIf, e_bYes, e_iL, e_iT, e_iLb, e_iR, e_gL1, e_gL2, e_gL3, e_gT, e_gLb1, e_gLb2, e_gLb3, e_gLb4, e_nb1, e_nb2, e_bor1, e_bor2, e_bor3, e_bor4, e_arg1, e_arg2, e_arg3, e_arg4, e_putd, e_puto, e_toD1, e_toD2, e_allD0, e_allD1, e_allD2, e_gTupl, e_gList, e_tgnm, e_tgtp, e_tg0, e_tg1, e_sq1, e_sq2, e_sq3, e_sq4, e_sq5, e_qv2, e_qv3, e_qv4, e_qv5, e_data1, e_data2, e_data3, e_okI, e_okB, e_i2, e_sub, e_mul, e_mod, e_div, e_pow, e_lt, e_le, e_gt, e_ge, e_neg, e_addI, e_addS, e_addT, e_addL1, e_addL2, e_addL3, e_addL4, e_addL5, e_addL6, e_addL7, e_addL8, e_addL9, e_eq, e_ne, e_in, e_notIn, e_inT, e_inT2, e_inL1, e_inL2, e_inL3, e_is, e_isNot, e_isN1, e_isN2, e_isN3, e_isN4, e_isN5, e_isN6, e_isN7, e_ixT, e_ixL, e_ixO, e_ixB, e_ixSc, e_lenT, e_lenL, e_lenO, e_lenB, e_lenSc, e_lenS, e_tupT, e_tupL, e_tupO, e_tupB, e_lisT, e_lisL, e_lisO, e_lisB, e_min2, e_max2, e_any, e_all, e_sum, e_sorted, e_rev, e_sl, e_oN, e_isi, e_lc, e_wipe0, e_wipe1, e_iA, e_iAb, e_gAq1, e_gAq2, e_gAq3, e_gAqb1, e_gAqb2, e_gAqb3, e_gAqb4, e_no, e_cCh, e_cChI, e_aug, e_decT, e_decF, e_cDispS, e_cDT, e_cDK, e_cDisp1, e_storeA, e_stR1, e_stR2, e_stR3, e_sd1, e_keyD1, e_keyD2, e_keyTD, e_intsD, e_intsD0, e_borT, e_borT2, e_borK, e_borK2, e_argT, e_argT2, e_argK, e_argK2, e_nbT, e_nbK, e_putT, e_putK, e_gAt1, e_gAt2, e_gAt3, e_gAt4, e_gGetDK, e_gGetDT, e_gIxD, e_gInD, e_gNotInD, e_cGet1, e_cGet2, e_dk1, e_dk2, e_dk3, e_dk4, e_dt1, e_dt2, e_del, atI_zero, e_at1, e_at2, e_at3, e_at4, e_at5, e_at6, e_at7, e_at8, e_at9, e_atm, e_V, e_retV, e_unp, e_app, e_store, e_fzE, oS, rsO_some, Rs.bind_ok, Rs.bind_no, Rs.out_ok, Out.then_nx, Out.then_rt, Out.then_ct, Out.then_bk, fin_rt, fin_nx, List.getElem?_cons_zero, List.getElem?_cons_succ, List.set_cons_succ, List.set_cons_zero, List.length_cons, List.length_nil, Nat.reduceAdd, Nat.reduceLT, Nat.reduceLeDiff, Nat.reduceEqDiff, if_true, if_false, Bool.false_eq_true, Bool.not_true, Bool.not_false, and_self, true_and, and_true, List.map_cons, List.map_nil, Option.map_some, sh_int, sh_bool, sh_none, sh_tup, sh_lst, eqv_int, reduceIte, Option.bind_some, Option.bind_none, kitB_ll, kitB_lt, kitB_tt, kitB_tl, kitB_ii, tyD_list, tyD_int, Bool.true_and, Bool.false_and, Bool.and_true, Bool.and_false, Bool.or_true, Bool.true_or, Bool.false_or, Bool.or_false, Bool.and_self, Bool.or_self, e_cAK, List.append_nil, List.nil_append, List.cons_append, e_andB, e_orB, e_andR, e_orR, tyD_tuple, eqv_bool, eqv_none, tyD_bool, tyD_str, tyD_none, kitB_bb, kitB_nb, kitB_bi, kitB_ib, kitB_nl, kitB_nt, beq_self_eq_true, p1, c1']
        simp only [hb, lp_nx]
  obtain ⟨e4', e5', e⟩ := main (List.range us.length) [] none none (fun m hm => List.mem_range.mp hm) (by simp; omega)
  have hr := e_R1n (n := us.length) (by omega)
  rw [rng_nat] at hr
  rw [List.nil_append] at e
  show (sSeq _ _ [some (.d (encT us ts)), some (.d (tupD h)), some (.d (.int r)), none, none, none]).fin = _
  have e0 : encM [] = [] := rfl
  rw [e0] at e
  simp only [e_nil, e_seq, e_fz, e_bk, e_ct, e_ret, e_retN, e_drop, e_set, e_if, e_for, e_cC, e_c2, e_c1, e_cA, e_aN, e_aC, e_cB, e_asB, e_bNot, e_bAnd, e_bOr, e_vAnd, e_vOr, e_vNot, e_vIf, e_bYes, e_iL, e_iT, e_iLb, e_iR, e_gL1, e_gL2, e_gL3, e_gT, e_gLb1, e_gLb2, e_gLb3, e_gLb4, e_nb1, e_nb2, e_bor1, e_bor2, e_bor3, e_bor4, e_arg1, e_arg2, e_arg3, e_arg4, e_putd, e_puto, e_toD1, e_toD2, e_allD0, e_allD1, e_allD2, e_gTupl, e_gList, e_tgnm, e_tgtp, e_tg0, e_tg1, e_sq1, e_sq2, e_sq3, e_sq4, e_sq5, e_qv2, e_qv3, e_qv4, e_qv5, e_data1, e_data2, e_data3, e_okI, e_okB, e_i2, e_sub, e_mul, e_mod, e_div, e_pow, e_lt, e_le, e_gt, e_ge, e_neg, e_addI, e_addS, e_addT, e_addL1, e_addL2, e_addL3, e_addL4, e_addL5, e_addL6, e_addL7, e_addL8, e_addL9, e_eq, e_ne, e_in, e_notIn, e_inT, e_inT2, e_inL1, e_inL2, e_inL3, e_is, e_isNot, e_isN1, e_isN2, e_isN3, e_isN4, e_isN5, e_isN6, e_isN7, e_ixT, e_ixL, e_ixO, e_ixB, e_ixSc, e_lenT, e_lenL, e_lenO, e_lenB, e_lenSc, e_lenS, e_tupT, e_tupL, e_tupO, e_tupB, e_lisT, e_lisL, e_lisO, e_lisB, e_min2, e_max2, e_any, e_all, e_sum, e_sorted, e_rev, e_sl, e_oN, e_isi, e_lc, e_wipe0, e_wipe1, e_iA, e_iAb, e_gAq1, e_gAq2, e_gAq3, e_gAqb1, e_gAqb2, e_gAqb3, e_gAqb4, e_no, e_cCh, e_cChI, e_aug, e_decT, e_decF, e_cDispS, e_cDT, e_cDK, e_cDisp1, e_storeA, e_stR1, e_stR2, e_stR3, e_sd1, e_keyD1, e_keyD2, e_keyTD, e_intsD, e_intsD0, e_borT, e_borT2, e_borK, e_borK2, e_argT, e_argT2, e_argK, e_argK2, e_nbT, e_nbK, e_putT, e_putK, e_gAt1, e_gAt2, e_gAt3, e_gAt4, e_gGetDK, e_gGetDT, e_gIxD, e_gInD, e_gNotInD, e_cGet1, e_cGet2, e_dk1, e_dk2, e_dk3, e_dk4, e_dt1, e_dt2, e_del, atI_zero, e_at1, e_at2, e_at3, e_at4, e_at5, e_at6, e_at7, e_at8, e_at9, e_atm, e_V, e_retV, e_unp, e_app, e_store, e_fzE, oS, rsO_some, Rs.bind_ok, Rs.bind_no, Rs.out_ok, Out.then_nx, Out.then_rt, Out.then_ct, Out.then_bk, fin_rt, fin_nx, List.getElem?_cons_zero, List.getElem?_cons_succ, List.set_cons_succ, List.set_cons_zero, List.length_cons, List.length_nil, Nat.reduceAdd, Nat.reduceLT, Nat.reduceLeDiff, Nat.reduceEqDiff, if_true, if_false, Bool.false_eq_true, Bool.not_true, Bool.not_false, and_self, true_and, and_true, List.map_cons, List.map_nil, Option.map_some, sh_int, sh_bool, sh_none, sh_tup, sh_lst, eqv_int, reduceIte, Option.bind_some, Option.bind_none, kitB_ll, kitB_lt, kitB_tt, kitB_tl, kitB_ii, tyD_list, tyD_int, Bool.true_and, Bool.false_and, Bool.and_true, Bool.and_false, Bool.or_true, Bool.true_or, Bool.false_or, Bool.or_false, Bool.and_self, Bool.or_self, e_cAK, List.append_nil, List.nil_append, List.cons_append, e_andB, e_orB, e_andR, e_orR, tyD_tuple, eqv_bool, eqv_none, tyD_bool, tyD_str, tyD_none, kitB_bb, kitB_nb, kitB_bi, kitB_ib, kitB_nl, kitB_nt, beq_self_eq_true, h0, encU_len, hr, e]
  rfl
/-! one configuration is left for all others -/
theorem plan_in (a b c d : Option RV) (at1 : PyData) (h p : List Int) : ∀ (es : List (Int × List Int)) (T : List (List Int × List Int)) (e8 e9 : Option RV), tget T h = some p → T.length + es.length ≤ 500000 → p.length ≤ 500000 → ∃ e8' e9', loopF (.tp [8, 9]) L0_shortest_plan (encM es) [a, b, c, d, some (.ot (encP T)), some (.ol (encQ T)), some (.d at1), some (.d (tupD h)), e8, e9]
    = .nx [a, b, c, d, some (.ot (encP (es.foldl (addB p) T))), some (.ol (encQ (es.foldl (addB p) T))), some (.d at1), some (.d (tupD h)), e8', e9']
  | [], T, e8, e9, _, _, _ => ⟨e8, e9, rfl⟩
  | (m, q) :: es, T, e8, e9, hp, hz, hz2 => by
    rw [List.length_cons] at hz
    have hl : (encP T).length = T.length := List.length_map ..
    have hl2 : (encQ T).length = T.length := List.length_map ..
    have hz1 : T.length ≤ 1000000 := by omega
    have hz3 : p.length ≤ 999999 := by omega
    have hadd : addB p T (m, q) = if (tget T q).isSome = true then T else T ++ [(q, p ++ [m])] := rfl
    obtain ⟨e8', e9', ih⟩ := plan_in a b c d at1 h p es (addB p T (m, q)) (some (.d (.int m))) (some (.d (tupD q))) (tget_pre (addB_pre p T _) hp) (by rw [hadd]; split <;> first | omega | (simp; omega)) hz2
    refine ⟨e8', e9', ?_⟩
    rw [List.foldl_cons, ← ih]
    have hm : encM ((m, q) :: es) = .tuple [.int m, tupD q] :: encM es := rfl
    rw [hm, loopF_cons]
    have ht : tgE (.tp [8, 9]) (.tuple [.int m, tupD q]) [a, b, c, d, some (.ot (encP T)), some (.ol (encQ T)), some (.d at1), some (.d (tupD h)), e8, e9] = some [a, b, c, d, some (.ot (encP T)), some (.ol (encQ T)), some (.d at1), some (.d (tupD h)), some (.d (.int m)), some (.d (tupD q))] := rfl
    rw [ht]
    have hk1 : keyTD (tupD q) = some q := intsD_map q
    have hk2 : keyTD (tupD h) = some h := intsD_map h
    have hb : L0_shortest_plan [a, b, c, d, some (.ot (encP T)), some (.ol (encQ T)), some (.d at1), some (.d (tupD h)), some (.d (.int m)), some (.d (tupD q))] = .nx [a, b, c, d, some (.ot (encP (addB p T (m, q)))), some (.ol (encQ (addB p T (m, q)))), some (.d at1), some (.d (tupD h)), some (.d (.int m)), some (.d (tupD q))] := by
      rw [hadd]
      generalize hX : L0_shortest_plan _ = X
      unfold L0_shortest_plan at hX
      cases hq : tget T q with
      | some q' =>
        have e1 : dGet (encP T) q = some (.list (q'.map .int)) := by rw [dGet_P, hq]; rfl
        simp only [e_nil, e_seq, e_fz, e_bk, e_ct, e_ret, e_retN, e_drop, e_set, e_if, e_for, e_cC, e_c2, e_c1, e_cA, e_aN, e_aC, e_cB, e_asB, e_bNot, e_bAnd, e_bOr, e_vAnd, e_vOr, e_vNot, e_vIf, e_bYes, e_iL, e_iT, e_iLb, e_iR, e_gL1, e_gL2, e_gL3, e_gT, e_gLb1, e_gLb2, e_gLb3, e_gLb4, e_nb1, e_nb2, e_bor1, e_bor2, e_bor3, e_bor4, e_arg1, e_arg2, e_arg3, e_arg4, e_putd, e_puto, e_toD1, e_toD2, e_allD0, e_allD1, e_allD2, e_gTupl, e_gList, e_tgnm, e_tgtp, e_tg0, e_tg1, e_sq1, e_sq2, e_sq3, e_sq4, e_sq5, e_qv2, e_qv3, e_qv4, e_qv5, e_data1, e_data2, e_data3, e_okI, e_okB, e_i2, e_sub, e_mul, e_mod, e_div, e_pow, e_lt, e_le, e_gt, e_ge, e_neg, e_addI, e_addS, e_addT, e_addL1, e_addL2, e_addL3, e_addL4, e_addL5, e_addL6, e_addL7, e_addL8, e_addL9, e_eq, e_ne, e_in, e_notIn, e_inT, e_inT2, e_inL1, e_inL2, e_inL3, e_is, e_isNot, e_isN1, e_isN2, e_isN3, e_isN4, e_isN5, e_isN6, e_isN7, e_ixT, e_ixL, e_ixO, e_ixB, e_ixSc, e_lenT, e_lenL, e_lenO, e_lenB, e_lenSc, e_lenS, e_tupT, e_tupL, e_tupO, e_tupB, e_lisT, e_lisL, e_lisO, e_lisB, e_min2, e_max2, e_any, e_all, e_sum, e_sorted, e_rev, e_sl, e_oN, e_isi, e_lc, e_wipe0, e_wipe1, e_iA, e_iAb, e_gAq1, e_gAq2, e_gAq3, e_gAqb1, e_gAqb2, e_gAqb3, e_gAqb4, e_no, e_cCh, e_cChI, e_aug, e_decT, e_decF, e_cDispS, e_cDT, e_cDK, e_cDisp1, e_storeA, e_stR1, e_stR2, e_stR3, e_sd1, e_keyD1, e_keyD2, e_keyTD, e_intsD, e_intsD0, e_borT, e_borT2, e_borK, e_borK2, e_argT, e_argT2, e_argK, e_argK2, e_nbT, e_nbK, e_putT, e_putK, e_gAt1, e_gAt2, e_gAt3, e_gAt4, e_gGetDK, e_gGetDT, e_gIxD, e_gInD, e_gNotInD, e_cGet1, e_cGet2, e_dk1, e_dk2, e_dk3, e_dk4, e_dt1, e_dt2, e_del, atI_zero, e_at1, e_at2, e_at3, e_at4, e_at5, e_at6, e_at7, e_at8, e_at9, e_atm, e_V, e_retV, e_unp, e_app, e_store, e_fzE, oS, rsO_some, Rs.bind_ok, Rs.bind_no, Rs.out_ok, Out.then_nx, Out.then_rt, Out.then_ct, Out.then_bk, fin_rt, fin_nx, List.getElem?_cons_zero, List.getElem?_cons_succ, List.set_cons_succ, List.set_cons_zero, List.length_cons, List.length_nil, Nat.reduceAdd, Nat.reduceLT, Nat.reduceLeDiff, Nat.reduceEqDiff, if_true, if_false, Bool.false_eq_true, Bool.not_true, Bool.not_false, and_self, true_and, and_true, List.map_cons, List.map_nil, Option.map_some, sh_int, sh_bool, sh_none, sh_tup, sh_lst, eqv_int, reduceIte, Option.bind_some, Option.bind_none, kitB_ll, kitB_lt, kitB_tt, kitB_tl, kitB_ii, tyD_list, tyD_int, Bool.true_and, Bool.false_and, Bool.and_true, Bool.and_false, Bool.or_true, Bool.true_or, Bool.false_or, Bool.or_false, Bool.and_self, Bool.or_self, e_cAK, List.append_nil, List.nil_append, List.cons_append, e_andB, e_orB, e_andR, e_orR, tyD_tuple, eqv_bool, eqv_none, tyD_bool, tyD_str, tyD_none, kitB_bb, kitB_nb, kitB_bi, kitB_ib, kitB_nl, kitB_nt, beq_self_eq_true, hk1, e1, Option.isSome_some] at hX
        subst hX
        rfl
      | none =>
        have e1 : dGet (encP T) q = none := by rw [dGet_P, hq]; rfl
        have e2 : dGet (encP T) h = some (.list (p.map .int)) := by rw [dGet_P, hp]; rfl
        simp only [e_nil, e_seq, e_fz, e_bk, e_ct, e_ret, e_retN, e_drop, e_set, e_if, e_for, e_cC, e_c2, e_c1, e_cA, e_aN, e_aC, e_cB, e_asB, e_bNot, e_bAnd, e_bOr, e_vAnd, e_vOr, e_vNot, e_vIf, e_bYes, e_iL, e_iT, e_iLb, e_iR, e_gL1, e_gL2, e_gL3, e_gT, e_gLb1, e_gLb2, e_gLb3, e_gLb4, e_nb1, e_nb2, e_bor1, e_bor2, e_bor3, e_bor4, e_arg1, e_arg2, e_arg3, e_arg4, e_putd, e_puto, e_toD1, e_toD2, e_allD0, e_allD1, e_allD2, e_gTupl, e_gList, e_tgnm, e_tgtp, e_tg0, e_tg1, e_sq1, e_sq2, e_sq3, e_sq4, e_sq5, e_qv2, e_qv3, e_qv4, e_qv5, e_data1, e_data2, e_data3, e_okI, e_okB, e_i2, e_sub, e_mul, e_mod, e_div, e_pow, e_lt, e_le, e_gt, e_ge, e_neg, e_addI, e_addS, e_addT, e_addL1, e_addL2, e_addL3, e_addL4, e_addL5, e_addL6, e_addL7, e_addL8, e_addL9, e_eq, e_ne, e_in, e_notIn, e_inT, e_inT2, e_inL1, e_inL2, e_inL3, e_is, e_isNot, e_isN1, e_isN2, e_isN3, e_isN4, e_isN5, e_isN6, e_isN7, e_ixT, e_ixL, e_ixO, e_ixB, e_ixSc, e_lenT, e_lenL, e_lenO, e_lenB, e_lenSc, e_lenS, e_tupT, e_tupL, e_tupO, e_tupB, e_lisT, e_lisL, e_lisO, e_lisB, e_min2, e_max2, e_any, e_all, e_sum, e_sorted, e_rev, e_sl, e_oN, e_isi, e_lc, e_wipe0, e_wipe1, e_iA, e_iAb, e_gAq1, e_gAq2, e_gAq3, e_gAqb1, e_gAqb2, e_gAqb3, e_gAqb4, e_no, e_cCh, e_cChI, e_aug, e_decT, e_decF, e_cDispS, e_cDT, e_cDK, e_cDisp1, e_storeA, e_stR1, e_stR2, e_stR3, e_sd1, e_keyD1, e_keyD2, e_keyTD, e_intsD, e_intsD0, e_borT, e_borT2, e_borK, e_borK2, e_argT, e_argT2, e_argK, e_argK2, e_nbT, e_nbK, e_putT, e_putK, e_gAt1, e_gAt2, e_gAt3, e_gAt4, e_gGetDK, e_gGetDT, e_gIxD, e_gInD, e_gNotInD, e_cGet1, e_cGet2, e_dk1, e_dk2, e_dk3, e_dk4, e_dt1, e_dt2, e_del, atI_zero, e_at1, e_at2, e_at3, e_at4, e_at5, e_at6, e_at7, e_at8, e_at9, e_atm, e_V, e_retV, e_unp, e_app, e_store, e_fzE, oS, rsO_some, Rs.bind_ok, Rs.bind_no, Rs.out_ok, Out.then_nx, Out.then_rt, Out.then_ct, Out.then_bk, fin_rt, fin_nx, List.getElem?_cons_zero, List.getElem?_cons_succ, List.set_cons_succ, List.set_cons_zero, List.length_cons, List.length_nil, Nat.reduceAdd, Nat.reduceLT, Nat.reduceLeDiff, Nat.reduceEqDiff, if_true, if_false, Bool.false_eq_true, Bool.not_true, Bool.not_false, and_self, true_and, and_true, List.map_cons, List.map_nil, Option.map_some, sh_int, sh_bool, sh_none, sh_tup, sh_lst, eqv_int, reduceIte, Option.bind_some, Option.bind_none, kitB_ll, kitB_lt, kitB_tt, kitB_tl, kitB_ii, tyD_list, tyD_int, Bool.true_and, Bool.false_and, Bool.and_true, Bool.and_false, Bool.or_true, Bool.true_or, Bool.false_or, Bool.or_false, Bool.and_self, Bool.or_self, e_cAK, List.append_nil, List.nil_append, List.cons_append, e_andB, e_orB, e_andR, e_orR, tyD_tuple, eqv_bool, eqv_none, tyD_bool, tyD_str, tyD_none, kitB_bb, kitB_nb, kitB_bi, kitB_ib, kitB_nl, kitB_nt, beq_self_eq_true, hk1, hk2, e1, e2, Option.isSome_none, List.length_map, if_pos hz3, hl, hl2, if_pos hz1] at hX
        subst hX
        have e3 : dPut (encP T) q (.list (p.map .int ++ [.int m])) = encP (T ++ [(q, p ++ [m])]) := by
          rw [dPut_new _ e1]
          unfold encP
          rw [List.map_append]
          simp
        have e4 : encQ T ++ [tupD q] = encQ (T ++ [(q, p ++ [m])]) := by unfold encQ; rw [List.map_append]; rfl
        rw [e3, e4]
        rfl
    simp only [hb, lp_nx]
/-- what the table's rows keep -/
structure Row (us : List (List Int)) (r : Nat) (T : List (List Int × List Int)) (i : Nat) : Prop where
  nodup : (T.map (·.1)).Nodup
  conf : ∀ e ∈ T, e.1.length ≤ 800
  plan : ∀ e ∈ T, e.2.length ≤ i
theorem succM_len (us : List (List Int)) (r : Nat) (h : List Int) : (succM us r h).length ≤ us.length := by
  unfold succM
  rw [List.length_map]
  exact Nat.le_trans (List.length_filter_le _ _) (by simp)
theorem Row.next {us : List (List Int)} {r : Nat} {T : List (List Int × List Int)} {i : Nat} (w : Row us r T i) (hr : r ≤ 800) {e : List Int × List Int} (he : e ∈ T) : Row us r (expB (succM us r) T e.1 e.2) (i + 1) := by
  refine ⟨fold_nodup _ w.nodup, ?_, ?_⟩
  all_goals
    unfold expB
    have : ∀ (es : List (Int × List Int)), (∀ x ∈ es, x ∈ succM us r e.1) → ∀ U : List (List Int × List Int), (∀ f ∈ U, f.1.length ≤ 800 ∧ f.2.length ≤ i + 1) → ∀ f ∈ es.foldl (addB e.2) U, f.1.length ≤ 800 ∧ f.2.length ≤ i + 1 := by
      intro es
      induction es with
      | nil => intro _ U h; exact h
      | cons x es ih =>
        intro hs U h
        refine ih (fun y hy => hs y (List.mem_cons_of_mem _ hy)) _ fun f hf => ?_
        unfold addB at hf
        split at hf
        · exact h f hf
        · rcases List.mem_append.mp hf with hf | hf
          · exact h f hf
          · rw [List.mem_singleton.mp hf]
            obtain ⟨h1, h2⟩ := succM_mem.mp (hs x List.mem_cons_self)
            have := w.plan e he
            refine ⟨?_, by simp; omega⟩
            show x.2.length ≤ 800
            rw [h2]; omega
    have := this (succM us r e.1) (fun _ h => h) T fun f hf => ⟨w.conf f hf, Nat.le_succ_of_le (w.plan f hf)⟩
  · exact fun f hf => (this f hf).1
  · exact fun f hf => (this f hf).2
theorem plan_while (us : List (List Int)) (ts : List Int) (r : Nat) (g : List Int) (st : Option RV) (hu : us.length ≤ 8) (hr8 : r ≤ 800) (n : Nat) : ∀ (k : Nat) (T : List (List Int × List Int)) (i : Nat) (e7 e8 e9 : Option RV), Row us r T i → (runB (succM us r) k T i).length ≤ 1000 → (runB (succM us r) k T i).length < k + i → i ≤ T.length →
    match seekB (succM us r) g k T i with
    | some p => loopW (cB (c2 gLt (cV 6) (cA gLen (aC (cV 5) aN)))) L1_shortest_plan (k + n) [some (.d (encT us ts)), some (.d (.int r)), st, some (.d (tupD g)), some (.ot (encP T)), some (.ol (encQ T)), some (.d (.int i)), e7, e8, e9] = .rt (.d (.list (p.map .int)))
    | none => ∃ env', loopW (cB (c2 gLt (cV 6) (cA gLen (aC (cV 5) aN)))) L1_shortest_plan (k + n) [some (.d (encT us ts)), some (.d (.int r)), st, some (.d (tupD g)), some (.ot (encP T)), some (.ol (encQ T)), some (.d (.int i)), e7, e8, e9] = .nx env'
  | 0, T, i, e7, e8, e9, w, hz, hf, hi => by
    unfold runB at hf
    omega
  | k + 1, T, i, e7, e8, e9, w, hz, hf, hi => by
    have hq : (encQ T).length = T.length := List.length_map ..
    rw [show k + 1 + n = (k + n) + 1 by omega, loopW_succ]
    unfold seekB
    cases e : T[i]? with
    | none =>
      have hge : T.length ≤ i := List.getElem?_eq_none_iff.mp e
      have hdec : decide ((i : Int) < (T.length : Int)) = false := decide_eq_false (by omega)
      simp only [e_nil, e_seq, e_fz, e_bk, e_ct, e_ret, e_retN, e_drop, e_set, e_if, e_for, e_cC, e_c2, e_c1, e_cA, e_aN, e_aC, e_cB, e_asB, e_bNot, e_bAnd, e_bOr, e_vAnd, e_vOr, e_vNot, e_vIf, e_bYes, e_iL, e_iT, e_iLb, e_iR, e_gL1, e_gL2, e_gL3, e_gT, e_gLb1, e_gLb2, e_gLb3, e_gLb4, e_nb1, e_nb2, e_bor1, e_bor2, e_bor3, e_bor4, e_arg1, e_arg2, e_arg3, e_arg4, e_putd, e_puto, e_toD1, e_toD2, e_allD0, e_allD1, e_allD2, e_gTupl, e_gList, e_tgnm, e_tgtp, e_tg0, e_tg1, e_sq1, e_sq2, e_sq3, e_sq4, e_sq5, e_qv2, e_qv3, e_qv4, e_qv5, e_data1, e_data2, e_data3, e_okI, e_okB, e_i2, e_sub, e_mul, e_mod, e_div, e_pow, e_lt, e_le, e_gt, e_ge, e_neg, e_addI, e_addS, e_addT, e_addL1, e_addL2, e_addL3, e_addL4, e_addL5, e_addL6, e_addL7, e_addL8, e_addL9, e_eq, e_ne, e_in, e_notIn, e_inT, e_inT2, e_inL1, e_inL2, e_inL3, e_is, e_isNot, e_isN1, e_isN2, e_isN3, e_isN4, e_isN5, e_isN6, e_isN7, e_ixT, e_ixL, e_ixO, e_ixB, e_ixSc, e_lenT, e_lenL, e_lenO, e_lenB, e_lenSc, e_lenS, e_tupT, e_tupL, e_tupO, e_tupB, e_lisT, e_lisL, e_lisO, e_lisB, e_min2, e_max2, e_any, e_all, e_sum, e_sorted, e_rev, e_sl, e_oN, e_isi, e_lc, e_wipe0, e_wipe1, e_iA, e_iAb, e_gAq1, e_gAq2, e_gAq3, e_gAqb1, e_gAqb2, e_gAqb3, e_gAqb4, e_no, e_cCh, e_cChI, e_aug, e_decT, e_decF, e_cDispS, e_cDT, e_cDK, e_cDisp1, e_storeA, e_stR1, e_stR2, e_stR3, e_sd1, e_keyD1, e_keyD2, e_keyTD, e_intsD, e_intsD0, e_borT, e_borT2, e_borK, e_borK2, e_argT, e_argT2, e_argK, e_argK2, e_nbT, e_nbK, e_putT, e_putK, e_gAt1, e_gAt2, e_gAt3, e_gAt4, e_gGetDK, e_gGetDT, e_gIxD, e_gInD, e_gNotInD, e_cGet1, e_cGet2, e_dk1, e_dk2, e_dk3, e_dk4, e_dt1, e_dt2, e_del, atI_zero, e_at1, e_at2, e_at3, e_at4, e_at5, e_at6, e_at7, e_at8, e_at9, e_atm, e_V, e_retV, e_unp, e_app, e_store, e_fzE, oS, rsO_some, Rs.bind_ok, Rs.bind_no, Rs.out_ok, Out.then_nx, Out.then_rt, Out.then_ct, Out.then_bk, fin_rt, fin_nx, List.getElem?_cons_zero, List.getElem?_cons_succ, List.set_cons_succ, List.set_cons_zero, List.length_cons, List.length_nil, Nat.reduceAdd, Nat.reduceLT, Nat.reduceLeDiff, Nat.reduceEqDiff, if_true, if_false, Bool.false_eq_true, Bool.not_true, Bool.not_false, and_self, true_and, and_true, List.map_cons, List.map_nil, Option.map_some, sh_int, sh_bool, sh_none, sh_tup, sh_lst, eqv_int, reduceIte, Option.bind_some, Option.bind_none, kitB_ll, kitB_lt, kitB_tt, kitB_tl, kitB_ii, tyD_list, tyD_int, Bool.true_and, Bool.false_and, Bool.and_true, Bool.and_false, Bool.or_true, Bool.true_or, Bool.false_or, Bool.or_false, Bool.and_self, Bool.or_self, e_cAK, List.append_nil, List.nil_append, List.cons_append, e_andB, e_orB, e_andR, e_orR, tyD_tuple, eqv_bool, eqv_none, tyD_bool, tyD_str, tyD_none, kitB_bb, kitB_nb, kitB_bi, kitB_ib, kitB_nl, kitB_nt, beq_self_eq_true, hq, hdec]
      exact ⟨_, rfl⟩
    | some f =>
      have hil := (List.getElem?_eq_some_iff.mp e).1
      have hdec : decide ((i : Int) < (T.length : Int)) = true := decide_eq_true (by omega)
      have hmem := List.mem_of_getElem? e
      have hfp : tget T f.1 = some f.2 := tget_of w.nodup hmem
      have hfc := w.conf f hmem
      have hfl := w.plan f hmem
      unfold runB at hz hf
      rw [e] at hz hf
      simp only at hz hf
      have pre := expB_pre (succ := succM us r) T f.1 f.2
      have pre2 := runB_pre (succ := succM us r) k (expB (succM us r) T f.1 f.2) (i + 1)
      have hT1 := pre.length_le
      have hT2 := pre2.length_le
      have hix : atI (encQ T) (i : Int) = some (tupD f.1) := by
        rw [atI_lt (by omega) (by rw [hq]; omega)]
        unfold encQ
        rw [List.getElem?_map, show ((i : Int)).toNat = i by omega, e]
        rfl
      have heq : PyData.eqv (tupD f.1) (tupD g) = decide (f.1 = g) := eqv_tup _ _
      have hk : keyTD (tupD f.1) = some f.1 := intsD_map _
      have hget : dGet (encP T) f.1 = some (.list (f.2.map .int)) := by rw [dGet_P, hfp]; rfl
      have sh1 : SeqAt.shaped (tupD f.1) = true := sh_tup _
      have sh2 : SeqAt.shaped (tupD g) = true := sh_tup _
      simp only [e_nil, e_seq, e_fz, e_bk, e_ct, e_ret, e_retN, e_drop, e_set, e_if, e_for, e_cC, e_c2, e_c1, e_cA, e_aN, e_aC, e_cB, e_asB, e_bNot, e_bAnd, e_bOr, e_vAnd, e_vOr, e_vNot, e_vIf, e_bYes, e_iL, e_iT, e_iLb, e_iR, e_gL1, e_gL2, e_gL3, e_gT, e_gLb1, e_gLb2, e_gLb3, e_gLb4, e_nb1, e_nb2, e_bor1, e_bor2, e_bor3, e_bor4, e_arg1, e_arg2, e_arg3, e_arg4, e_putd, e_puto, e_toD1, e_toD2, e_allD0, e_allD1, e_allD2, e_gTupl, e_gList, e_tgnm, e_tgtp, e_tg0, e_tg1, e_sq1, e_sq2, e_sq3, e_sq4, e_sq5, e_qv2, e_qv3, e_qv4, e_qv5, e_data1, e_data2, e_data3, e_okI, e_okB, e_i2, e_sub, e_mul, e_mod, e_div, e_pow, e_lt, e_le, e_gt, e_ge, e_neg, e_addI, e_addS, e_addT, e_addL1, e_addL2, e_addL3, e_addL4, e_addL5, e_addL6, e_addL7, e_addL8, e_addL9, e_eq, e_ne, e_in, e_notIn, e_inT, e_inT2, e_inL1, e_inL2, e_inL3, e_is, e_isNot, e_isN1, e_isN2, e_isN3, e_isN4, e_isN5, e_isN6, e_isN7, e_ixT, e_ixL, e_ixO, e_ixB, e_ixSc, e_lenT, e_lenL, e_lenO, e_lenB, e_lenSc, e_lenS, e_tupT, e_tupL, e_tupO, e_tupB, e_lisT, e_lisL, e_lisO, e_lisB, e_min2, e_max2, e_any, e_all, e_sum, e_sorted, e_rev, e_sl, e_oN, e_isi, e_lc, e_wipe0, e_wipe1, e_iA, e_iAb, e_gAq1, e_gAq2, e_gAq3, e_gAqb1, e_gAqb2, e_gAqb3, e_gAqb4, e_no, e_cCh, e_cChI, e_aug, e_decT, e_decF, e_cDispS, e_cDT, e_cDK, e_cDisp1, e_storeA, e_stR1, e_stR2, e_stR3, e_sd1, e_keyD1, e_keyD2, e_keyTD, e_intsD, e_intsD0, e_borT, e_borT2, e_borK, e_borK2, e_argT, e_argT2, e_argK, e_argK2, e_nbT, e_nbK, e_putT, e_putK, e_gAt1, e_gAt2, e_gAt3, e_gAt4, e_gGetDK, e_gGetDT, e_gIxD, e_gInD, e_gNotInD, e_cGet1, e_cGet2, e_dk1, e_dk2, e_dk3, e_dk4, e_dt1, e_dt2, e_del, atI_zero, e_at1, e_at2, e_at3, e_at4, e_at5, e_at6, e_at7, e_at8, e_at9, e_atm, e_V, e_retV, e_unp, e_app, e_store, e_fzE, oS, rsO_some, Rs.bind_ok, Rs.bind_no, Rs.out_ok, Out.then_nx, Out.then_rt, Out.then_ct, Out.then_bk, fin_rt, fin_nx, List.getElem?_cons_zero, List.getElem?_cons_succ, List.set_cons_succ, List.set_cons_zero, List.length_cons, List.length_nil, Nat.reduceAdd, Nat.reduceLT, Nat.reduceLeDiff, Nat.reduceEqDiff, if_true, if_false, Bool.false_eq_true, Bool.not_true, Bool.not_false, and_self, true_and, and_true, List.map_cons, List.map_nil, Option.map_some, sh_int, sh_bool, sh_none, sh_tup, sh_lst, eqv_int, reduceIte, Option.bind_some, Option.bind_none, kitB_ll, kitB_lt, kitB_tt, kitB_tl, kitB_ii, tyD_list, tyD_int, Bool.true_and, Bool.false_and, Bool.and_true, Bool.and_false, Bool.or_true, Bool.true_or, Bool.false_or, Bool.or_false, Bool.and_self, Bool.or_self, e_cAK, List.append_nil, List.nil_append, List.cons_append, e_andB, e_orB, e_andR, e_orR, tyD_tuple, eqv_bool, eqv_none, tyD_bool, tyD_str, tyD_none, kitB_bb, kitB_nb, kitB_bi, kitB_ib, kitB_nl, kitB_nt, beq_self_eq_true, hq, hdec]
      by_cases c : f.1 = g
      · rw [if_pos c]
        simp only
        generalize hX : L1_shortest_plan _ = X
        unfold L1_shortest_plan at hX
        simp only [e_nil, e_seq, e_fz, e_bk, e_ct, e_ret, e_retN, e_drop, e_set, e_if, e_for, e_cC, e_c2, e_c1, e_cA, e_aN, e_aC, e_cB, e_asB, e_bNot, e_bAnd, e_bOr, e_vAnd, e_vOr, e_vNot, e_vIf, e_bYes, e_iL, e_iT, e_iLb, e_iR, e_gL1, e_gL2, e_gL3, e_gT, e_gLb1, e_gLb2, e_gLb3, e_gLb4, e_nb1, e_nb2, e_bor1, e_bor2, e_bor3, e_bor4, e_arg1, e_arg2, e_arg3, e_arg4, e_putd, e_puto, e_toD1, e_toD2, e_allD0, e_allD1, e_allD2, e_gTupl, e_gList, e_tgnm, e_tgtp, e_tg0, e_tg1, e_sq1, e_sq2, e_sq3, e_sq4, e_sq5, e_qv2, e_qv3, e_qv4, e_qv5, e_data1, e_data2, e_data3, e_okI, e_okB, e_i2, e_sub, e_mul, e_mod, e_div, e_pow, e_lt, e_le, e_gt, e_ge, e_neg, e_addI, e_addS, e_addT, e_addL1, e_addL2, e_addL3, e_addL4, e_addL5, e_addL6, e_addL7, e_addL8, e_addL9, e_eq, e_ne, e_in, e_notIn, e_inT, e_inT2, e_inL1, e_inL2, e_inL3, e_is, e_isNot, e_isN1, e_isN2, e_isN3, e_isN4, e_isN5, e_isN6, e_isN7, e_ixT, e_ixL, e_ixO, e_ixB, e_ixSc, e_lenT, e_lenL, e_lenO, e_lenB, e_lenSc, e_lenS, e_tupT, e_tupL, e_tupO, e_tupB, e_lisT, e_lisL, e_lisO, e_lisB, e_min2, e_max2, e_any, e_all, e_sum, e_sorted, e_rev, e_sl, e_oN, e_isi, e_lc, e_wipe0, e_wipe1, e_iA, e_iAb, e_gAq1, e_gAq2, e_gAq3, e_gAqb1, e_gAqb2, e_gAqb3, e_gAqb4, e_no, e_cCh, e_cChI, e_aug, e_decT, e_decF, e_cDispS, e_cDT, e_cDK, e_cDisp1, e_storeA, e_stR1, e_stR2, e_stR3, e_sd1, e_keyD1, e_keyD2, e_keyTD, e_intsD, e_intsD0, e_borT, e_borT2, e_borK, e_borK2, e_argT, e_argT2, e_argK, e_argK2, e_nbT, e_nbK, e_putT, e_putK, e_gAt1, e_gAt2, e_gAt3, e_gAt4, e_gGetDK, e_gGetDT, e_gIxD, e_gInD, e_gNotInD, e_cGet1, e_cGet2, e_dk1, e_dk2, e_dk3, e_dk4, e_dt1, e_dt2, e_del, atI_zero, e_at1, e_at2, e_at3, e_at4, e_at5, e_at6, e_at7, e_at8, e_at9, e_atm, e_V, e_retV, e_unp, e_app, e_store, e_fzE, oS, rsO_some, Rs.bind_ok, Rs.bind_no, Rs.out_ok, Out.then_nx, Out.then_rt, Out.then_ct, Out.then_bk, fin_rt, fin_nx, List.getElem?_cons_zero, List.getElem?_cons_succ, List.set_cons_succ, List.set_cons_zero, List.length_cons, List.length_nil, Nat.reduceAdd, Nat.reduceLT, Nat.reduceLeDiff, Nat.reduceEqDiff, if_true, if_false, Bool.false_eq_true, Bool.not_true, Bool.not_false, and_self, true_and, and_true, List.map_cons, List.map_nil, Option.map_some, sh_int, sh_bool, sh_none, sh_tup, sh_lst, eqv_int, reduceIte, Option.bind_some, Option.bind_none, kitB_ll, kitB_lt, kitB_tt, kitB_tl, kitB_ii, tyD_list, tyD_int, Bool.true_and, Bool.false_and, Bool.and_true, Bool.and_false, Bool.or_true, Bool.true_or, Bool.false_or, Bool.or_false, Bool.and_self, Bool.or_self, e_cAK, List.append_nil, List.nil_append, List.cons_append, e_andB, e_orB, e_andR, e_orR, tyD_tuple, eqv_bool, eqv_none, tyD_bool, tyD_str, tyD_none, kitB_bb, kitB_nb, kitB_bi, kitB_ib, kitB_nl, kitB_nt, beq_self_eq_true, hix, heq, decide_eq_true c, sh1, sh2, hk, hget] at hX
        subst hX
        rfl
      · rw [if_neg c]
        have htr := trans_ok us ts f.1 r (by omega) (by omega)
        obtain ⟨e8', e9', hin⟩ := plan_in (some (.d (encT us ts))) (some (.d (.int r))) st (some (.d (tupD g))) (.int ((i : Int) + 1)) f.1 f.2 (succM us r f.1) T e8 e9 hfp (by have := succM_len us r f.1; omega) (by omega)
        have ih := plan_while us ts r g st hu hr8 n k (expB (succM us r) T f.1 f.2) (i + 1) (some (.d (tupD f.1))) e8' e9' (w.next hr8 hmem) hz (by omega) (by omega)
        have hb : L1_shortest_plan [some (.d (encT us ts)), some (.d (.int r)), st, some (.d (tupD g)), some (.ot (encP T)), some (.ol (encQ T)), some (.d (.int i)), e7, e8, e9] = .nx [some (.d (encT us ts)), some (.d (.int r)), st, some (.d (tupD g)), some (.ot (encP (expB (succM us r) T f.1 f.2))), some (.ol (encQ (expB (succM us r) T f.1 f.2))), some (.d (.int ((i : Int) + 1))), some (.d (tupD f.1)), e8', e9'] := by
          generalize hX : L1_shortest_plan _ = X
          unfold L1_shortest_plan at hX
          simp only [e_nil, e_seq, e_fz, e_bk, e_ct, e_ret, e_retN, e_drop, e_set, e_if, e_for, e_cC, e_c2, e_c1, e_cA, e_aN, e_aC, e_cB, e_asB, e_bNot, e_bAnd, e_bOr, e_vAnd, e_vOr, e_vNot, e_vIf, e_bYes, e_iL, e_iT, e_iLb, e_iR, e_gL1, e_gL2, e_gL3, e_gT, e_gLb1, e_gLb2, e_gLb3, e_gLb4, e_nb1, e_nb2, e_bor1, e_bor2, e_bor3, e_bor4, e_arg1, e_arg2, e_arg3, e_arg4, e_putd, e_puto, e_toD1, e_toD2, e_allD0, e_allD1, e_allD2, e_gTupl, e_gList, e_tgnm, e_tgtp, e_tg0, e_tg1, e_sq1, e_sq2, e_sq3, e_sq4, e_sq5, e_qv2, e_qv3, e_qv4, e_qv5, e_data1, e_data2, e_data3, e_okI, e_okB, e_i2, e_sub, e_mul, e_mod, e_div, e_pow, e_lt, e_le, e_gt, e_ge, e_neg, e_addI, e_addS, e_addT, e_addL1, e_addL2, e_addL3, e_addL4, e_addL5, e_addL6, e_addL7, e_addL8, e_addL9, e_eq, e_ne, e_in, e_notIn, e_inT, e_inT2, e_inL1, e_inL2, e_inL3, e_is, e_isNot, e_isN1, e_isN2, e_isN3, e_isN4, e_isN5, e_isN6, e_isN7, e_ixT, e_ixL, e_ixO, e_ixB, e_ixSc, e_lenT, e_lenL, e_lenO, e_lenB, e_lenSc, e_lenS, e_tupT, e_tupL, e_tupO, e_tupB, e_lisT, e_lisL, e_lisO, e_lisB, e_min2, e_max2, e_any, e_all, e_sum, e_sorted, e_rev, e_sl, e_oN, e_isi, e_lc, e_wipe0, e_wipe1, e_iA, e_iAb, e_gAq1, e_gAq2, e_gAq3, e_gAqb1, e_gAqb2, e_gAqb3, e_gAqb4, e_no, e_cCh, e_cChI, e_aug, e_decT, e_decF, e_cDispS, e_cDT, e_cDK, e_cDisp1, e_storeA, e_stR1, e_stR2, e_stR3, e_sd1, e_keyD1, e_keyD2, e_keyTD, e_intsD, e_intsD0, e_borT, e_borT2, e_borK, e_borK2, e_argT, e_argT2, e_argK, e_argK2, e_nbT, e_nbK, e_putT, e_putK, e_gAt1, e_gAt2, e_gAt3, e_gAt4, e_gGetDK, e_gGetDT, e_gIxD, e_gInD, e_gNotInD, e_cGet1, e_cGet2, e_dk1, e_dk2, e_dk3, e_dk4, e_dt1, e_dt2, e_del, atI_zero, e_at1, e_at2, e_at3, e_at4, e_at5, e_at6, e_at7, e_at8, e_at9, e_atm, e_V, e_retV, e_unp, e_app, e_store, e_fzE, oS, rsO_some, Rs.bind_ok, Rs.bind_no, Rs.out_ok, Out.then_nx, Out.then_rt, Out.then_ct, Out.then_bk, fin_rt, fin_nx, List.getElem?_cons_zero, List.getElem?_cons_succ, List.set_cons_succ, List.set_cons_zero, List.length_cons, List.length_nil, Nat.reduceAdd, Nat.reduceLT, Nat.reduceLeDiff, Nat.reduceEqDiff, if_true, if_false, Bool.false_eq_true, Bool.not_true, Bool.not_false, and_self, true_and, and_true, List.map_cons, List.map_nil, Option.map_some, sh_int, sh_bool, sh_none, sh_tup, sh_lst, eqv_int, reduceIte, Option.bind_some, Option.bind_none, kitB_ll, kitB_lt, kitB_tt, kitB_tl, kitB_ii, tyD_list, tyD_int, Bool.true_and, Bool.false_and, Bool.and_true, Bool.and_false, Bool.or_true, Bool.true_or, Bool.false_or, Bool.or_false, Bool.and_self, Bool.or_self, e_cAK, List.append_nil, List.nil_append, List.cons_append, e_andB, e_orB, e_andR, e_orR, tyD_tuple, eqv_bool, eqv_none, tyD_bool, tyD_str, tyD_none, kitB_bb, kitB_nb, kitB_bi, kitB_ib, kitB_nl, kitB_nt, beq_self_eq_true, hix, heq, decide_eq_false c, sh1, sh2, htr, e_iA, hin] at hX
          subst hX
          rfl
        rw [hb, lp_nx]
        exact ih
theorem e_while (n : Nat) (c : VEnv → Rs Bool) (f : VEnv → Out) (env : VEnv) : sWhile n c f env = loopW c f n env := rfl
def planO : Option (List Int) → PyData
  | some p => .list (p.map .int)
  | none => .none
theorem row_first (us : List (List Int)) (r : Nat) (st : List Int) (h : st.length ≤ 800) : Row us r [(st, [])] 0 :=
  ⟨by simp, fun e he => by rw [List.mem_singleton.mp he]; exact h, fun e he => by rw [List.mem_singleton.mp he]; simp⟩
def within (st : List Int) (r : Nat) (o : Option (List Int)) : Option (List Int) := if st.length ≤ r then o else none
theorem shortest_ok (us : List (List Int)) (ts st g : List Int) (r : Nat) (gd : PyData) (hg : (gd = .none ∧ g = ts) ∨ gd = tupD g) (hu : us.length ≤ 8) (hr8 : r ≤ 800) (hst : st.length ≤ 800) (hc : Cf us.length st) :
    F_shortest_plan [.d (encT us ts), .d (.int r), .d (tupD st), .d gd] = .ok (.d (planO (within st r (planM us r st g)))) := by
  have h1 : gIx (.d (encT us ts)) (.d (.int 1)) = .ok (.d (tupD ts)) := rfl
  have hln : gLen [.d (tupD st)] = .ok (.d (.int st.length)) := by rw [tupD, e_lenT, List.length_map]
  have hk : keyTD (tupD st) = some st := intsD_map st
  have hw := plan_while us ts r g (some (.d (tupD st))) hu hr8 99700 300 [(st, [])] 0 none none none (row_first us r st hst) (by have := (tabM_ok (r := r) hu hc).2; unfold tabM at this; omega) (by have := (tabM_ok (r := r) hu hc).2; unfold tabM at this; omega) (by simp)
  rw [planM_seek g hu hc] at hw
  have s1 : (sIf (cB (c2 gIs (cV 3) (cC .none))) (sSet 3 (c2 gIx (cV 0) (cC (.int 1)))) sNil) [some (.d (encT us ts)), some (.d (.int r)), some (.d (tupD st)), some (.d gd), none, none, none, none, none, none] = .nx [some (.d (encT us ts)), some (.d (.int r)), some (.d (tupD st)), some (.d (tupD g)), none, none, none, none, none, none] := by
    rcases hg with ⟨rfl, rfl⟩ | rfl
    · simp only [e_nil, e_seq, e_fz, e_bk, e_ct, e_ret, e_retN, e_drop, e_set, e_if, e_for, e_cC, e_c2, e_c1, e_cA, e_aN, e_aC, e_cB, e_asB, e_bNot, e_bAnd, e_bOr, e_vAnd, e_vOr, e_vNot, e_vIf, e_bYes, e_iL, e_iT, e_iLb, e_iR, e_gL1, e_gL2, e_gL3, e_gT, e_gLb1, e_gLb2, e_gLb3, e_gLb4, e_nb1, e_nb2, e_bor1, e_bor2, e_bor3, e_bor4, e_arg1, e_arg2, e_arg3, e_arg4, e_putd, e_puto, e_toD1, e_toD2, e_allD0, e_allD1, e_allD2, e_gTupl, e_gList, e_tgnm, e_tgtp, e_tg0, e_tg1, e_sq1, e_sq2, e_sq3, e_sq4, e_sq5, e_qv2, e_qv3, e_qv4, e_qv5, e_data1, e_data2, e_data3, e_okI, e_okB, e_i2, e_sub, e_mul, e_mod, e_div, e_pow, e_lt, e_le, e_gt, e_ge, e_neg, e_addI, e_addS, e_addT, e_addL1, e_addL2, e_addL3, e_addL4, e_addL5, e_addL6, e_addL7, e_addL8, e_addL9, e_eq, e_ne, e_in, e_notIn, e_inT, e_inT2, e_inL1, e_inL2, e_inL3, e_is, e_isNot, e_isN1, e_isN2, e_isN3, e_isN4, e_isN5, e_isN6, e_isN7, e_ixT, e_ixL, e_ixO, e_ixB, e_ixSc, e_lenT, e_lenL, e_lenO, e_lenB, e_lenSc, e_lenS, e_tupT, e_tupL, e_tupO, e_tupB, e_lisT, e_lisL, e_lisO, e_lisB, e_min2, e_max2, e_any, e_all, e_sum, e_sorted, e_rev, e_sl, e_oN, e_isi, e_lc, e_wipe0, e_wipe1, e_iA, e_iAb, e_gAq1, e_gAq2, e_gAq3, e_gAqb1, e_gAqb2, e_gAqb3, e_gAqb4, e_no, e_cCh, e_cChI, e_aug, e_decT, e_decF, e_cDispS, e_cDT, e_cDK, e_cDisp1, e_storeA, e_stR1, e_stR2, e_stR3, e_sd1, e_keyD1, e_keyD2, e_keyTD, e_intsD, e_intsD0, e_borT, e_borT2, e_borK, e_borK2, e_argT, e_argT2, e_argK, e_argK2, e_nbT, e_nbK, e_putT, e_putK, e_gAt1, e_gAt2, e_gAt3, e_gAt4, e_gGetDK, e_gGetDT, e_gIxD, e_gInD, e_gNotInD, e_cGet1, e_cGet2, e_dk1, e_dk2, e_dk3, e_dk4, e_dt1, e_dt2, e_del, atI_zero, e_at1, e_at2, e_at3, e_at4, e_at5, e_at6, e_at7, e_at8, e_at9, e_atm, e_V, e_retV, e_unp, e_app, e_store, e_fzE, oS, rsO_some, Rs.bind_ok, Rs.bind_no, Rs.out_ok, Out.then_nx, Out.then_rt, Out.then_ct, Out.then_bk, fin_rt, fin_nx, List.getElem?_cons_zero, List.getElem?_cons_succ, List.set_cons_succ, List.set_cons_zero, List.length_cons, List.length_nil, Nat.reduceAdd, Nat.reduceLT, Nat.reduceLeDiff, Nat.reduceEqDiff, if_true, if_false, Bool.false_eq_true, Bool.not_true, Bool.not_false, and_self, true_and, and_true, List.map_cons, List.map_nil, Option.map_some, sh_int, sh_bool, sh_none, sh_tup, sh_lst, eqv_int, reduceIte, Option.bind_some, Option.bind_none, kitB_ll, kitB_lt, kitB_tt, kitB_tl, kitB_ii, tyD_list, tyD_int, Bool.true_and, Bool.false_and, Bool.and_true, Bool.and_false, Bool.or_true, Bool.true_or, Bool.false_or, Bool.or_false, Bool.and_self, Bool.or_self, e_cAK, List.append_nil, List.nil_append, List.cons_append, e_andB, e_orB, e_andR, e_orR, tyD_tuple, eqv_bool, eqv_none, tyD_bool, tyD_str, tyD_none, kitB_bb, kitB_nb, kitB_bi, kitB_ib, kitB_nl, kitB_nt, beq_self_eq_true, h1]
    · rfl
  show (sSeq _ _ [some (.d (encT us ts)), some (.d (.int r)), some (.d (tupD st)), some (.d gd), none, none, none, none, none, none]).fin = _
  rw [e_seq, s1]
  unfold within
  by_cases c : st.length ≤ r
  · have hdec : decide ((r : Int) < (st.length : Int)) = false := decide_eq_false (by omega)
    rw [if_pos c]
    have e0 : encP [(st, [])] = [(st, .list [])] := rfl
    have q0 : encQ [(st, [])] = [tupD st] := rfl
    rw [e0, q0] at hw
    cases hp : planM us r st g with
    | some p =>
      rw [hp] at hw
      simp only at hw
      have hw : loopW (cB (c2 gLt (cV 6) (cA gLen (aC (cV 5) aN)))) L1_shortest_plan 100000 [some (.d (encT us ts)), some (.d (.int r)), some (.d (tupD st)), some (.d (tupD g)), some (.ot [(st, .list [])]), some (.ol [tupD st]), some (.d (.int 0)), none, none, none] = .rt (.d (.list (p.map .int))) := hw
      simp only [e_nil, e_seq, e_fz, e_bk, e_ct, e_ret, e_retN, e_drop, e_set, e_if, e_for, e_cC, e_c2, e_c1, e_cA, e_aN, e_aC, e_cB, e_asB, e_bNot, e_bAnd, e_bOr, e_vAnd, e_vOr, e_vNot, e_vIf, e_bYes, e_iL, e_iT, e_iLb, e_iR, e_gL1, e_gL2, e_gL3, e_gT, e_gLb1, e_gLb2, e_gLb3, e_gLb4, e_nb1, e_nb2, e_bor1, e_bor2, e_bor3, e_bor4, e_arg1, e_arg2, e_arg3, e_arg4, e_putd, e_puto, e_toD1, e_toD2, e_allD0, e_allD1, e_allD2, e_gTupl, e_gList, e_tgnm, e_tgtp, e_tg0, e_tg1, e_sq1, e_sq2, e_sq3, e_sq4, e_sq5, e_qv2, e_qv3, e_qv4, e_qv5, e_data1, e_data2, e_data3, e_okI, e_okB, e_i2, e_sub, e_mul, e_mod, e_div, e_pow, e_lt, e_le, e_gt, e_ge, e_neg, e_addI, e_addS, e_addT, e_addL1, e_addL2, e_addL3, e_addL4, e_addL5, e_addL6, e_addL7, e_addL8, e_addL9, e_eq, e_ne, e_in, e_notIn, e_inT, e_inT2, e_inL1, e_inL2, e_inL3, e_is, e_isNot, e_isN1, e_isN2, e_isN3, e_isN4, e_isN5, e_isN6, e_isN7, e_ixT, e_ixL, e_ixO, e_ixB, e_ixSc, e_lenT, e_lenL, e_lenO, e_lenB, e_lenSc, e_lenS, e_tupT, e_tupL, e_tupO, e_tupB, e_lisT, e_lisL, e_lisO, e_lisB, e_min2, e_max2, e_any, e_all, e_sum, e_sorted, e_rev, e_sl, e_oN, e_isi, e_lc, e_wipe0, e_wipe1, e_iA, e_iAb, e_gAq1, e_gAq2, e_gAq3, e_gAqb1, e_gAqb2, e_gAqb3, e_gAqb4, e_no, e_cCh, e_cChI, e_aug, e_decT, e_decF, e_cDispS, e_cDT, e_cDK, e_cDisp1, e_storeA, e_stR1, e_stR2, e_stR3, e_sd1, e_keyD1, e_keyD2, e_keyTD, e_intsD, e_intsD0, e_borT, e_borT2, e_borK, e_borK2, e_argT, e_argT2, e_argK, e_argK2, e_nbT, e_nbK, e_putT, e_putK, e_gAt1, e_gAt2, e_gAt3, e_gAt4, e_gGetDK, e_gGetDT, e_gIxD, e_gInD, e_gNotInD, e_cGet1, e_cGet2, e_dk1, e_dk2, e_dk3, e_dk4, e_dt1, e_dt2, e_del, atI_zero, e_at1, e_at2, e_at3, e_at4, e_at5, e_at6, e_at7, e_at8, e_at9, e_atm, e_V, e_retV, e_unp, e_app, e_store, e_fzE, oS, rsO_some, Rs.bind_ok, Rs.bind_no, Rs.out_ok, Out.then_nx, Out.then_rt, Out.then_ct, Out.then_bk, fin_rt, fin_nx, List.getElem?_cons_zero, List.getElem?_cons_succ, List.set_cons_succ, List.set_cons_zero, List.length_cons, List.length_nil, Nat.reduceAdd, Nat.reduceLT, Nat.reduceLeDiff, Nat.reduceEqDiff, if_true, if_false, Bool.false_eq_true, Bool.not_true, Bool.not_false, and_self, true_and, and_true, List.map_cons, List.map_nil, Option.map_some, sh_int, sh_bool, sh_none, sh_tup, sh_lst, eqv_int, reduceIte, Option.bind_some, Option.bind_none, kitB_ll, kitB_lt, kitB_tt, kitB_tl, kitB_ii, tyD_list, tyD_int, Bool.true_and, Bool.false_and, Bool.and_true, Bool.and_false, Bool.or_true, Bool.true_or, Bool.false_or, Bool.or_false, Bool.and_self, Bool.or_self, e_cAK, List.append_nil, List.nil_append, List.cons_append, e_andB, e_orB, e_andR, e_orR, tyD_tuple, eqv_bool, eqv_none, tyD_bool, tyD_str, tyD_none, kitB_bb, kitB_nb, kitB_bi, kitB_ib, kitB_nl, kitB_nt, beq_self_eq_true, hln, hdec, hk, e_while, hw]
      rfl
    | none =>
      rw [hp] at hw
      simp only at hw
      obtain ⟨env', hw⟩ := hw
      have hw : loopW (cB (c2 gLt (cV 6) (cA gLen (aC (cV 5) aN)))) L1_shortest_plan 100000 [some (.d (encT us ts)), some (.d (.int r)), some (.d (tupD st)), some (.d (tupD g)), some (.ot [(st, .list [])]), some (.ol [tupD st]), some (.d (.int 0)), none, none, none] = .nx env' := hw
      simp only [e_nil, e_seq, e_fz, e_bk, e_ct, e_ret, e_retN, e_drop, e_set, e_if, e_for, e_cC, e_c2, e_c1, e_cA, e_aN, e_aC, e_cB, e_asB, e_bNot, e_bAnd, e_bOr, e_vAnd, e_vOr, e_vNot, e_vIf, e_bYes, e_iL, e_iT, e_iLb, e_iR, e_gL1, e_gL2, e_gL3, e_gT, e_gLb1, e_gLb2, e_gLb3, e_gLb4, e_nb1, e_nb2, e_bor1, e_bor2, e_bor3, e_bor4, e_arg1, e_arg2, e_arg3, e_arg4, e_putd, e_puto, e_toD1, e_toD2, e_allD0, e_allD1, e_allD2, e_gTupl, e_gList, e_tgnm, e_tgtp, e_tg0, e_tg1, e_sq1, e_sq2, e_sq3, e_sq4, e_sq5, e_qv2, e_qv3, e_qv4, e_qv5, e_data1, e_data2, e_data3, e_okI, e_okB, e_i2, e_sub, e_mul, e_mod, e_div, e_pow, e_lt, e_le, e_gt, e_ge, e_neg, e_addI, e_addS, e_addT, e_addL1, e_addL2, e_addL3, e_addL4, e_addL5, e_addL6, e_addL7, e_addL8, e_addL9, e_eq, e_ne, e_in, e_notIn, e_inT, e_inT2, e_inL1, e_inL2, e_inL3, e_is, e_isNot, e_isN1, e_isN2, e_isN3, e_isN4, e_isN5, e_isN6, e_isN7, e_ixT, e_ixL, e_ixO, e_ixB, e_ixSc, e_lenT, e_lenL, e_lenO, e_lenB, e_lenSc, e_lenS, e_tupT, e_tupL, e_tupO, e_tupB, e_lisT, e_lisL, e_lisO, e_lisB, e_min2, e_max2, e_any, e_all, e_sum, e_sorted, e_rev, e_sl, e_oN, e_isi, e_lc, e_wipe0, e_wipe1, e_iA, e_iAb, e_gAq1, e_gAq2, e_gAq3, e_gAqb1, e_gAqb2, e_gAqb3, e_gAqb4, e_no, e_cCh, e_cChI, e_aug, e_decT, e_decF, e_cDispS, e_cDT, e_cDK, e_cDisp1, e_storeA, e_stR1, e_stR2, e_stR3, e_sd1, e_keyD1, e_keyD2, e_keyTD, e_intsD, e_intsD0, e_borT, e_borT2, e_borK, e_borK2, e_argT, e_argT2, e_argK, e_argK2, e_nbT, e_nbK, e_putT, e_putK, e_gAt1, e_gAt2, e_gAt3, e_gAt4, e_gGetDK, e_gGetDT, e_gIxD, e_gInD, e_gNotInD, e_cGet1, e_cGet2, e_dk1, e_dk2, e_dk3, e_dk4, e_dt1, e_dt2, e_del, atI_zero, e_at1, e_at2, e_at3, e_at4, e_at5, e_at6, e_at7, e_at8, e_at9, e_atm, e_V, e_retV, e_unp, e_app, e_store, e_fzE, oS, rsO_some, Rs.bind_ok, Rs.bind_no, Rs.out_ok, Out.then_nx, Out.then_rt, Out.then_ct, Out.then_bk, fin_rt, fin_nx, List.getElem?_cons_zero, List.getElem?_cons_succ, List.set_cons_succ, List.set_cons_zero, List.length_cons, List.length_nil, Nat.reduceAdd, Nat.reduceLT, Nat.reduceLeDiff, Nat.reduceEqDiff, if_true, if_false, Bool.false_eq_true, Bool.not_true, Bool.not_false, and_self, true_and, and_true, List.map_cons, List.map_nil, Option.map_some, sh_int, sh_bool, sh_none, sh_tup, sh_lst, eqv_int, reduceIte, Option.bind_some, Option.bind_none, kitB_ll, kitB_lt, kitB_tt, kitB_tl, kitB_ii, tyD_list, tyD_int, Bool.true_and, Bool.false_and, Bool.and_true, Bool.and_false, Bool.or_true, Bool.true_or, Bool.false_or, Bool.or_false, Bool.and_self, Bool.or_self, e_cAK, List.append_nil, List.nil_append, List.cons_append, e_andB, e_orB, e_andR, e_orR, tyD_tuple, eqv_bool, eqv_none, tyD_bool, tyD_str, tyD_none, kitB_bb, kitB_nb, kitB_bi, kitB_ib, kitB_nl, kitB_nt, beq_self_eq_true, hln, hdec, hk, e_while, hw]
      rfl
  · have hdec : decide ((r : Int) < (st.length : Int)) = true := decide_eq_true (by omega)
    rw [if_neg c]
    simp only [e_nil, e_seq, e_fz, e_bk, e_ct, e_ret, e_retN, e_drop, e_set, e_if, e_for, e_cC, e_c2, e_c1, e_cA, e_aN, e_aC, e_cB, e_asB, e_bNot, e_bAnd, e_bOr, e_vAnd, e_vOr, e_vNot, e_vIf, e_bYes, e_iL, e_iT, e_iLb, e_iR, e_gL1, e_gL2, e_gL3, e_gT, e_gLb1, e_gLb2, e_gLb3, e_gLb4, e_nb1, e_nb2, e_bor1, e_bor2, e_bor3, e_bor4, e_arg1, e_arg2, e_arg3, e_arg4, e_putd, e_puto, e_toD1, e_toD2, e_allD0, e_allD1, e_allD2, e_gTupl, e_gList, e_tgnm, e_tgtp, e_tg0, e_tg1, e_sq1, e_sq2, e_sq3, e_sq4, e_sq5, e_qv2, e_qv3, e_qv4, e_qv5, e_data1, e_data2, e_data3, e_okI, e_okB, e_i2, e_sub, e_mul, e_mod, e_div, e_pow, e_lt, e_le, e_gt, e_ge, e_neg, e_addI, e_addS, e_addT, e_addL1, e_addL2, e_addL3, e_addL4, e_addL5, e_addL6, e_addL7, e_addL8, e_addL9, e_eq, e_ne, e_in, e_notIn, e_inT, e_inT2, e_inL1, e_inL2, e_inL3, e_is, e_isNot, e_isN1, e_isN2, e_isN3, e_isN4, e_isN5, e_isN6, e_isN7, e_ixT, e_ixL, e_ixO, e_ixB, e_ixSc, e_lenT, e_lenL, e_lenO, e_lenB, e_lenSc, e_lenS, e_tupT, e_tupL, e_tupO, e_tupB, e_lisT, e_lisL, e_lisO, e_lisB, e_min2, e_max2, e_any, e_all, e_sum, e_sorted, e_rev, e_sl, e_oN, e_isi, e_lc, e_wipe0, e_wipe1, e_iA, e_iAb, e_gAq1, e_gAq2, e_gAq3, e_gAqb1, e_gAqb2, e_gAqb3, e_gAqb4, e_no, e_cCh, e_cChI, e_aug, e_decT, e_decF, e_cDispS, e_cDT, e_cDK, e_cDisp1, e_storeA, e_stR1, e_stR2, e_stR3, e_sd1, e_keyD1, e_keyD2, e_keyTD, e_intsD, e_intsD0, e_borT, e_borT2, e_borK, e_borK2, e_argT, e_argT2, e_argK, e_argK2, e_nbT, e_nbK, e_putT, e_putK, e_gAt1, e_gAt2, e_gAt3, e_gAt4, e_gGetDK, e_gGetDT, e_gIxD, e_gInD, e_gNotInD, e_cGet1, e_cGet2, e_dk1, e_dk2, e_dk3, e_dk4, e_dt1, e_dt2, e_del, atI_zero, e_at1, e_at2, e_at3, e_at4, e_at5, e_at6, e_at7, e_at8, e_at9, e_atm, e_V, e_retV, e_unp, e_app, e_store, e_fzE, oS, rsO_some, Rs.bind_ok, Rs.bind_no, Rs.out_ok, Out.then_nx, Out.then_rt, Out.then_ct, Out.then_bk, fin_rt, fin_nx, List.getElem?_cons_zero, List.getElem?_cons_succ, List.set_cons_succ, List.set_cons_zero, List.length_cons, List.length_nil, Nat.reduceAdd, Nat.reduceLT, Nat.reduceLeDiff, Nat.reduceEqDiff, if_true, if_false, Bool.false_eq_true, Bool.not_true, Bool.not_false, and_self, true_and, and_true, List.map_cons, List.map_nil, Option.map_some, sh_int, sh_bool, sh_none, sh_tup, sh_lst, eqv_int, reduceIte, Option.bind_some, Option.bind_none, kitB_ll, kitB_lt, kitB_tt, kitB_tl, kitB_ii, tyD_list, tyD_int, Bool.true_and, Bool.false_and, Bool.and_true, Bool.and_false, Bool.or_true, Bool.true_or, Bool.false_or, Bool.or_false, Bool.and_self, Bool.or_self, e_cAK, List.append_nil, List.nil_append, List.cons_append, e_andB, e_orB, e_andR, e_orR, tyD_tuple, eqv_bool, eqv_none, tyD_bool, tyD_str, tyD_none, kitB_bb, kitB_nb, kitB_bi, kitB_ib, kitB_nl, kitB_nt, beq_self_eq_true, hln, hdec]
    rfl
/-! ### the law's own table -/
theorem ways_in (us : List (List Int)) (r : Nat) (st : Option RV) (h p : List Int) (at1 : PyData) (hw : ∀ s, (usAt us s).length ≤ 1000000) (hl : h.length ≤ 900) : ∀ (ms : List Nat) (T : List (List Int × List Int)) (e7 e8 : Option RV), (∀ m ∈ ms, m < us.length) → tget T h = some p → T.length + ms.length ≤ 500000 →
    ∃ e7' e8', loopF (.nm 7) L0__law_ways (ms.map natI) [some (.d (.tuple (encU us))), some (.d (.int r)), st, some (.ot (encD T)), some (.ol (encQ T)), some (.d at1), some (.d (tupD h)), e7, e8]
      = .nx [some (.d (.tuple (encU us))), some (.d (.int r)), st, some (.ot (encD (((ms.filter (okM us r h)).map fun m : Nat => ((m : Int), movM h m)).foldl (addB p) T))), some (.ol (encQ (((ms.filter (okM us r h)).map fun m : Nat => ((m : Int), movM h m)).foldl (addB p) T))), some (.d at1), some (.d (tupD h)), e7', e8']
  | [], T, e7, e8, _, _, _ => ⟨e7, e8, by simp⟩
  | m :: ms, T, e7, e8, hm, hp, hz => by
    rw [List.length_cons] at hz
    have hm0 := hm m List.mem_cons_self
    have p1 := law_can_ok us h m (by omega) (by omega) (hw m)
    have p1 : F__law_can [.d (.tuple (encU us)), .d (tupD h), .d (.int m)] = _ := p1
    have p2 : F__law_moved [.d (tupD h), .d (.int m)] = .ok (.d (tupD (movM h m))) := law_moved_ok h m (by omega)
    have hln : gLen [.d (tupD (movM h m))] = .ok (.d (.int (movM h m).length)) := by rw [tupD, e_lenT, List.length_map]
    have hl1 : (encD T).length = T.length := List.length_map ..
    have hl2 : (encQ T).length = T.length := List.length_map ..
    have hz1 : T.length ≤ 1000000 := by omega
    have hk1 : keyTD (tupD (movM h m)) = some (movM h m) := intsD_map _
    have hk2 : keyTD (tupD h) = some h := intsD_map h
    have hadd : addB p T ((m : Int), movM h m) = if (tget T (movM h m)).isSome = true then T else T ++ [(movM h m, p ++ [(m : Int)])] := rfl
    rw [List.map_cons, loopF_cons]
    have ht : tgE (.nm 7) (natI m) [some (.d (.tuple (encU us))), some (.d (.int r)), st, some (.ot (encD T)), some (.ol (encQ T)), some (.d at1), some (.d (tupD h)), e7, e8] = some [some (.d (.tuple (encU us))), some (.d (.int r)), st, some (.ot (encD T)), some (.ol (encQ T)), some (.d at1), some (.d (tupD h)), some (.d (.int m)), e8] := rfl
    rw [ht]
    by_cases ok : okM us r h m = true
    · have c1 : canM us h m = true := by unfold okM at ok; simp at ok; exact ok.1
      have c2 : (movM h m).length ≤ r := by unfold okM at ok; simp at ok; exact ok.2
      have hdec : decide (((movM h m).length : Int) ≤ (r : Int)) = true := decide_eq_true (by omega)
      obtain ⟨e7', e8', ih⟩ := ways_in us r st h p at1 hw hl ms (addB p T ((m : Int), movM h m)) (some (.d (.int m))) (some (.d (tupD (movM h m)))) (fun x hx => hm x (List.mem_cons_of_mem _ hx)) (tget_pre (addB_pre p T _) hp) (by rw [hadd]; split <;> first | omega | (simp; omega))
      refine ⟨e7', e8', ?_⟩
      rw [List.filter_cons_of_pos ok, List.map_cons, List.foldl_cons, ← ih]
      have hb : L0__law_ways [some (.d (.tuple (encU us))), some (.d (.int r)), st, some (.ot (encD T)), some (.ol (encQ T)), some (.d at1), some (.d (tupD h)), some (.d (.int m)), e8]
          = .nx [some (.d (.tuple (encU us))), some (.d (.int r)), st, some (.ot (encD (addB p T ((m : Int), movM h m)))), some (.ol (encQ (addB p T ((m : Int), movM h m)))), some (.d at1), some (.d (tupD h)), some (.d (.int m)), some (.d (tupD (movM h m)))] := by
        rw [hadd]
        generalize hX : L0__law_ways _ = X
        unfold L0__law_ways at hX
        cases hq : tget T (movM h m) with
        | some q' =>
          have e1 : dGet (encD T) (movM h m) = some (.int (q'.length : Int)) := by rw [dGet_D, hq]; rfl
          simp only [e_nil, e_seq, e_fz, e_bk, e_ct, e_ret, e_retN, e_drop, e_set, e_if, e_for, e_cC, e_c2, e_c1, e_cA, e_aN, e_aC, e_cB, e_asB, e_bNot, e_bAnd, e_bOr, e_vAnd, e_vOr, e_vNot, e_vIf, e_bYes, e_iL, e_iT, e_iLb, e_iR, e_gL1, e_gL2, e_gL3, e_gT, e_gLb1, e_gLb2, e_gLb3, e_gLb4, e_nb1, e_nb2, e_bor1, e_bor2, e_bor3, e_bor4, e_arg1, e_arg2, e_arg3, e_arg4, e_putd, e_puto, e_toD1, e_toD2, e_allD0, e_allD1, e_allD2, e_gTupl, e_gList, e_tgnm, e_tgtp, e_tg0, e_tg1, e_sq1, e_sq2, e_sq3, e_sq4, e_sq5, e_qv2, e_qv3, e_qv4, e_qv5, e_data1, e_data2, e_data3, e_okI, e_okB, e_i2, e_sub, e_mul, e_mod, e_div, e_pow, e_lt, e_le, e_gt, e_ge, e_neg, e_addI, e_addS, e_addT, e_addL1, e_addL2, e_addL3, e_addL4, e_addL5, e_addL6, e_addL7, e_addL8, e_addL9, e_eq, e_ne, e_in, e_notIn, e_inT, e_inT2, e_inL1, e_inL2, e_inL3, e_is, e_isNot, e_isN1, e_isN2, e_isN3, e_isN4, e_isN5, e_isN6, e_isN7, e_ixT, e_ixL, e_ixO, e_ixB, e_ixSc, e_lenT, e_lenL, e_lenO, e_lenB, e_lenSc, e_lenS, e_tupT, e_tupL, e_tupO, e_tupB, e_lisT, e_lisL, e_lisO, e_lisB, e_min2, e_max2, e_any, e_all, e_sum, e_sorted, e_rev, e_sl, e_oN, e_isi, e_lc, e_wipe0, e_wipe1, e_iA, e_iAb, e_gAq1, e_gAq2, e_gAq3, e_gAqb1, e_gAqb2, e_gAqb3, e_gAqb4, e_no, e_cCh, e_cChI, e_aug, e_decT, e_decF, e_cDispS, e_cDT, e_cDK, e_cDisp1, e_storeA, e_stR1, e_stR2, e_stR3, e_sd1, e_keyD1, e_keyD2, e_keyTD, e_intsD, e_intsD0, e_borT, e_borT2, e_borK, e_borK2, e_argT, e_argT2, e_argK, e_argK2, e_nbT, e_nbK, e_putT, e_putK, e_gAt1, e_gAt2, e_gAt3, e_gAt4, e_gGetDK, e_gGetDT, e_gIxD, e_gInD, e_gNotInD, e_cGet1, e_cGet2, e_dk1, e_dk2, e_dk3, e_dk4, e_dt1, e_dt2, e_del, atI_zero, e_at1, e_at2, e_at3, e_at4, e_at5, e_at6, e_at7, e_at8, e_at9, e_atm, e_V, e_retV, e_unp, e_app, e_store, e_fzE, oS, rsO_some, Rs.bind_ok, Rs.bind_no, Rs.out_ok, Out.then_nx, Out.then_rt, Out.then_ct, Out.then_bk, fin_rt, fin_nx, List.getElem?_cons_zero, List.getElem?_cons_succ, List.set_cons_succ, List.set_cons_zero, List.length_cons, List.length_nil, Nat.reduceAdd, Nat.reduceLT, Nat.reduceLeDiff, Nat.reduceEqDiff, if_true, if_false, Bool.false_eq_true, Bool.not_true, Bool.not_false, and_self, true_and, and_true, List.map_cons, List.map_nil, Option.map_some, sh_int, sh_bool, sh_none, sh_tup, sh_lst, eqv_int, reduceIte, Option.bind_some, Option.bind_none, kitB_ll, kitB_lt, kitB_tt, kitB_tl, kitB_ii, tyD_list, tyD_int, Bool.true_and, Bool.false_and, Bool.and_true, Bool.and_false, Bool.or_true, Bool.true_or, Bool.false_or, Bool.or_false, Bool.and_self, Bool.or_self, e_cAK, List.append_nil, List.nil_append, List.cons_append, e_andB, e_orB, e_andR, e_orR, tyD_tuple, eqv_bool, eqv_none, tyD_bool, tyD_str, tyD_none, kitB_bb, kitB_nb, kitB_bi, kitB_ib, kitB_nl, kitB_nt, beq_self_eq_true, p1, c1, p2, hln, hdec, hk1, e1, Option.isSome_some] at hX
          subst hX
          rfl
        | none =>
          have e1 : dGet (encD T) (movM h m) = none := by rw [dGet_D, hq]; rfl
          have e2 : dGet (encD T) h = some (.int (p.length : Int)) := by rw [dGet_D, hp]; rfl
          simp only [e_nil, e_seq, e_fz, e_bk, e_ct, e_ret, e_retN, e_drop, e_set, e_if, e_for, e_cC, e_c2, e_c1, e_cA, e_aN, e_aC, e_cB, e_asB, e_bNot, e_bAnd, e_bOr, e_vAnd, e_vOr, e_vNot, e_vIf, e_bYes, e_iL, e_iT, e_iLb, e_iR, e_gL1, e_gL2, e_gL3, e_gT, e_gLb1, e_gLb2, e_gLb3, e_gLb4, e_nb1, e_nb2, e_bor1, e_bor2, e_bor3, e_bor4, e_arg1, e_arg2, e_arg3, e_arg4, e_putd, e_puto, e_toD1, e_toD2, e_allD0, e_allD1, e_allD2, e_gTupl, e_gList, e_tgnm, e_tgtp, e_tg0, e_tg1, e_sq1, e_sq2, e_sq3, e_sq4, e_sq5, e_qv2, e_qv3, e_qv4, e_qv5, e_data1, e_data2, e_data3, e_okI, e_okB, e_i2, e_sub, e_mul, e_mod, e_div, e_pow, e_lt, e_le, e_gt, e_ge, e_neg, e_addI, e_addS, e_addT, e_addL1, e_addL2, e_addL3, e_addL4, e_addL5, e_addL6, e_addL7, e_addL8, e_addL9, e_eq, e_ne, e_in, e_notIn, e_inT, e_inT2, e_inL1, e_inL2, e_inL3, e_is, e_isNot, e_isN1, e_isN2, e_isN3, e_isN4, e_isN5, e_isN6, e_isN7, e_ixT, e_ixL, e_ixO, e_ixB, e_ixSc, e_lenT, e_lenL, e_lenO, e_lenB, e_lenSc, e_lenS, e_tupT, e_tupL, e_tupO, e_tupB, e_lisT, e_lisL, e_lisO, e_lisB, e_min2, e_max2, e_any, e_all, e_sum, e_sorted, e_rev, e_sl, e_oN, e_isi, e_lc, e_wipe0, e_wipe1, e_iA, e_iAb, e_gAq1, e_gAq2, e_gAq3, e_gAqb1, e_gAqb2, e_gAqb3, e_gAqb4, e_no, e_cCh, e_cChI, e_aug, e_decT, e_decF, e_cDispS, e_cDT, e_cDK, e_cDisp1, e_storeA, e_stR1, e_stR2, e_stR3, e_sd1, e_keyD1, e_keyD2, e_keyTD, e_intsD, e_intsD0, e_borT, e_borT2, e_borK, e_borK2, e_argT, e_argT2, e_argK, e_argK2, e_nbT, e_nbK, e_putT, e_putK, e_gAt1, e_gAt2, e_gAt3, e_gAt4, e_gGetDK, e_gGetDT, e_gIxD, e_gInD, e_gNotInD, e_cGet1, e_cGet2, e_dk1, e_dk2, e_dk3, e_dk4, e_dt1, e_dt2, e_del, atI_zero, e_at1, e_at2, e_at3, e_at4, e_at5, e_at6, e_at7, e_at8, e_at9, e_atm, e_V, e_retV, e_unp, e_app, e_store, e_fzE, oS, rsO_some, Rs.bind_ok, Rs.bind_no, Rs.out_ok, Out.then_nx, Out.then_rt, Out.then_ct, Out.then_bk, fin_rt, fin_nx, List.getElem?_cons_zero, List.getElem?_cons_succ, List.set_cons_succ, List.set_cons_zero, List.length_cons, List.length_nil, Nat.reduceAdd, Nat.reduceLT, Nat.reduceLeDiff, Nat.reduceEqDiff, if_true, if_false, Bool.false_eq_true, Bool.not_true, Bool.not_false, and_self, true_and, and_true, List.map_cons, List.map_nil, Option.map_some, sh_int, sh_bool, sh_none, sh_tup, sh_lst, eqv_int, reduceIte, Option.bind_some, Option.bind_none, kitB_ll, kitB_lt, kitB_tt, kitB_tl, kitB_ii, tyD_list, tyD_int, Bool.true_and, Bool.false_and, Bool.and_true, Bool.and_false, Bool.or_true, Bool.true_or, Bool.false_or, Bool.or_false, Bool.and_self, Bool.or_self, e_cAK, List.append_nil, List.nil_append, List.cons_append, e_andB, e_orB, e_andR, e_orR, tyD_tuple, eqv_bool, eqv_none, tyD_bool, tyD_str, tyD_none, kitB_bb, kitB_nb, kitB_bi, kitB_ib, kitB_nl, kitB_nt, beq_self_eq_true, p1, c1, p2, hln, hdec, hk1, hk2, e1, e2, Option.isSome_none, hl1, hl2, if_pos hz1] at hX
          subst hX
          have e3 : dPut (encD T) (movM h m) (.int ((p.length : Int) + 1)) = encD (T ++ [(movM h m, p ++ [(m : Int)])]) := by
            rw [dPut_new _ e1]
            unfold encD
            rw [List.map_append]
            simp
          have e4 : encQ T ++ [tupD (movM h m)] = encQ (T ++ [(movM h m, p ++ [(m : Int)])]) := by unfold encQ; rw [List.map_append]; rfl
          rw [e3, e4]
          rfl
      simp only [hb, lp_nx]
    · obtain ⟨f8, hb⟩ : ∃ f8, L0__law_ways [some (.d (.tuple (encU us))), some (.d (.int r)), st, some (.ot (encD T)), some (.ol (encQ T)), some (.d at1), some (.d (tupD h)), some (.d (.int m)), e8]
          = .nx [some (.d (.tuple (encU us))), some (.d (.int r)), st, some (.ot (encD T)), some (.ol (encQ T)), some (.d at1), some (.d (tupD h)), some (.d (.int m)), f8] := by
        generalize hX : L0__law_ways _ = X
        unfold L0__law_ways at hX
        cases c1 : canM us h m with
        | false =>
          simp only [e_nil, e_seq, e_fz, e_bk, e_ct, e_ret, e_retN, e_drop, e_set, e_if, e_for, e_cC, e_c2, e_c1, e_cA, e_aN, e_aC, e_cB, e_asB, e_bNot, e_bAnd, e_bOr, e_vAnd, e_vOr, e_vNot, e_vIf, e_bYes, e_iL, e_iT, e_iLb, e_iR, e_gL1, e_gL2, e_gL3, e_gT, e_gLb1, e_gLb2, e_gLb3, e_gLb4, e_nb1, e_nb2, e_bor1, e_bor2, e_bor3, e_bor4, e_arg1, e_arg2, e_arg3, e_arg4, e_putd, e_puto, e_toD1, e_toD2, e_allD0, e_allD1, e_allD2, e_gTupl, e_gList, e_tgnm, e_tgtp, e_tg0, e_tg1, e_sq1, e_sq2, e_sq3, e_sq4, e_sq5, e_qv2, e_qv3, e_qv4, e_qv5, e_data1, e_data2, e_data3, e_okI, e_okB, e_i2, e_sub, e_mul, e_mod, e_div, e_pow, e_lt, e_le, e_gt, e_ge, e_neg, e_addI, e_addS, e_addT, e_addL1, e_addL2, e_addL3, e_addL4, e_addL5, e_addL6, e_addL7, e_addL8, e_addL9, e_eq, e_ne, e_in, e_notIn, e_inT, e_inT2, e_inL1, e_inL2, e_inL3, e_is, e_isNot, e_isN1, e_isN2, e_isN3, e_isN4, e_isN5, e_isN6, e_isN7, e_ixT, e_ixL, e_ixO, e_ixB, e_ixSc, e_lenT, e_lenL, e_lenO, e_lenB, e_lenSc, e_lenS, e_tupT, e_tupL, e_tupO, e_tupB, e_lisT, e_lisL, e_lisO, e_lisB, e_min2, e_max2, e_any, e_all, e_sum, e_sorted, e_rev, e_sl, e_oN, e_isi, e_lc, e_wipe0, e_wipe1, e_iA, e_iAb, e_gAq1, e_gAq2, e_gAq3, e_gAqb1, e_gAqb2, e_gAqb3, e_gAqb4, e_no, e_cCh, e_cChI, e_aug, e_decT, e_decF, e_cDispS, e_cDT, e_cDK, e_cDisp1, e_storeA, e_stR1, e_stR2, e_stR3, e_sd1, e_keyD1, e_keyD2, e_keyTD, e_intsD, e_intsD0, e_borT, e_borT2, e_borK, e_borK2, e_argT, e_argT2, e_argK, e_argK2, e_nbT, e_nbK, e_putT, e_putK, e_gAt1, e_gAt2, e_gAt3, e_gAt4, e_gGetDK, e_gGetDT, e_gIxD, e_gInD, e_gNotInD, e_cGet1, e_cGet2, e_dk1, e_dk2, e_dk3, e_dk4, e_dt1, e_dt2, e_del, atI_zero, e_at1, e_at2, e_at3, e_at4, e_at5, e_at6, e_at7, e_at8, e_at9, e_atm, e_V, e_retV, e_unp, e_app, e_store, e_fzE, oS, rsO_some, Rs.bind_ok, Rs.bind_no, Rs.out_ok, Out.then_nx, Out.then_rt, Out.then_ct, Out.then_bk, fin_rt, fin_nx, List.getElem?_cons_zero, List.getElem?_cons_succ, List.set_cons_succ, List.set_cons_zero, List.length_cons, List.length_nil, Nat.reduceAdd, Nat.reduceLT, Nat.reduceLeDiff, Nat.reduceEqDiff, if_true, if_false, Bool.false_eq_true, Bool.not_true, Bool.not_false, and_self, true_and, and_true, List.map_cons, List.map_nil, Option.map_some, sh_int, sh_bool, sh_none, sh_tup, sh_lst, eqv_int, reduceIte, Option.bind_some, Option.bind_none, kitB_ll, kitB_lt, kitB_tt, kitB_tl, kitB_ii, tyD_list, tyD_int, Bool.true_and, Bool.false_and, Bool.and_true, Bool.and_false, Bool.or_true, Bool.true_or, Bool.false_or, Bool.or_false, Bool.and_self, Bool.or_self, e_cAK, List.append_nil, List.nil_append, List.cons_append, e_andB, e_orB, e_andR, e_orR, tyD_tuple, eqv_bool, eqv_none, tyD_bool, tyD_str, tyD_none, kitB_bb, kitB_nb, kitB_bi, kitB_ib, kitB_nl, kitB_nt, beq_self_eq_true, p1, c1] at hX
          subst hX
          exact ⟨_, rfl⟩
        | true =>
          have hdec : decide (((movM h m).length : Int) ≤ (r : Int)) = false := decide_eq_false fun z => ok (by unfold okM; rw [c1, decide_eq_true (show (movM h m).length ≤ r by omega)]; rfl)
          simp only [e_nil, e_seq, e_fz, e_bk, e_ct, e_ret, e_retN, e_drop, e_set, e_if, e_for, e_cC, e_c2, e_c1, e_cA, e_aN, e_aC, e_cB, e_asB, e_bNot, e_bAnd, e_bOr, e_vAnd, e_vOr, e_vNot, e_vIf, e_bYes, e_iL, e_iT, e_iLb, e_iR, e_gL1, e_gL2, e_gL3, e_gT, e_gLb1, e_gLb2, e_gLb3, e_gLb4, e_nb1, e_nb2, e_bor1, e_bor2, e_bor3, e_bor4, e_arg1, e_arg2, e_arg3, e_arg4, e_putd, e_puto, e_toD1, e_toD2, e_allD0, e_allD1, e_allD2, e_gTupl, e_gList, e_tgnm, e_tgtp, e_tg0, e_tg1, e_sq1, e_sq2, e_sq3, e_sq4, e_sq5, e_qv2, e_qv3, e_qv4, e_qv5, e_data1, e_data2, e_data3, e_okI, e_okB, e_i2, e_sub, e_mul, e_mod, e_div, e_pow, e_lt, e_le, e_gt, e_ge, e_neg, e_addI, e_addS, e_addT, e_addL1, e_addL2, e_addL3, e_addL4, e_addL5, e_addL6, e_addL7, e_addL8, e_addL9, e_eq, e_ne, e_in, e_notIn, e_inT, e_inT2, e_inL1, e_inL2, e_inL3, e_is, e_isNot, e_isN1, e_isN2, e_isN3, e_isN4, e_isN5, e_isN6, e_isN7, e_ixT, e_ixL, e_ixO, e_ixB, e_ixSc, e_lenT, e_lenL, e_lenO, e_lenB, e_lenSc, e_lenS, e_tupT, e_tupL, e_tupO, e_tupB, e_lisT, e_lisL, e_lisO, e_lisB, e_min2, e_max2, e_any, e_all, e_sum, e_sorted, e_rev, e_sl, e_oN, e_isi, e_lc, e_wipe0, e_wipe1, e_iA, e_iAb, e_gAq1, e_gAq2, e_gAq3, e_gAqb1, e_gAqb2, e_gAqb3, e_gAqb4, e_no, e_cCh, e_cChI, e_aug, e_decT, e_decF, e_cDispS, e_cDT, e_cDK, e_cDisp1, e_storeA, e_stR1, e_stR2, e_stR3, e_sd1, e_keyD1, e_keyD2, e_keyTD, e_intsD, e_intsD0, e_borT, e_borT2, e_borK, e_borK2, e_argT, e_argT2, e_argK, e_argK2, e_nbT, e_nbK, e_putT, e_putK, e_gAt1, e_gAt2, e_gAt3, e_gAt4, e_gGetDK, e_gGetDT, e_gIxD, e_gInD, e_gNotInD, e_cGet1, e_cGet2, e_dk1, e_dk2, e_dk3, e_dk4, e_dt1, e_dt2, e_del, atI_zero, e_at1, e_at2, e_at3, e_at4, e_at5, e_at6, e_at7, e_at8, e_at9, e_atm, e_V, e_retV, e_unp, e_app, e_store, e_fzE, oS, rsO_some, Rs.bind_ok, Rs.bind_no, Rs.out_ok, Out.then_nx, Out.then_rt, Out.then_ct, Out.then_bk, fin_rt, fin_nx, List.getElem?_cons_zero, List.getElem?_cons_succ, List.set_cons_succ, List.set_cons_zero, List.length_cons, List.length_nil, Nat.reduceAdd, Nat.reduceLT, Nat.reduceLeDiff, Nat.reduceEqDiff, if_true, if_false, Bool.false_eq_true, Bool.not_true, Bool.not_false, and_self, true_and, and_true, List.map_cons, List.map_nil, Option.map_some, sh_int, sh_bool, sh_none, sh_tup, sh_lst, eqv_int, reduceIte, Option.bind_some, Option.bind_none, kitB_ll, kitB_lt, kitB_tt, kitB_tl, kitB_ii, tyD_list, tyD_int, Bool.true_and, Bool.false_and, Bool.and_true, Bool.and_false, Bool.or_true, Bool.true_or, Bool.false_or, Bool.or_false, Bool.and_self, Bool.or_self, e_cAK, List.append_nil, List.nil_append, List.cons_append, e_andB, e_orB, e_andR, e_orR, tyD_tuple, eqv_bool, eqv_none, tyD_bool, tyD_str, tyD_none, kitB_bb, kitB_nb, kitB_bi, kitB_ib, kitB_nl, kitB_nt, beq_self_eq_true, p1, c1, p2, hln, hdec] at hX
          subst hX
          exact ⟨_, rfl⟩
      obtain ⟨e7', e8', ih⟩ := ways_in us r st h p at1 hw hl ms T (some (.d (.int m))) f8 (fun x hx => hm x (List.mem_cons_of_mem _ hx)) hp (by omega)
      refine ⟨e7', e8', ?_⟩
      rw [List.filter_cons_of_neg ok, ← ih]
      simp only [hb, lp_nx]
theorem ways_while (us : List (List Int)) (r : Nat) (st : Option RV) (hw : ∀ s, (usAt us s).length ≤ 1000000) (hu : us.length ≤ 8) (hr8 : r ≤ 800) (n : Nat) : ∀ (k : Nat) (T : List (List Int × List Int)) (i : Nat) (e6 e7 e8 : Option RV), Row us r T i → (runB (succM us r) k T i).length ≤ 1000 → (runB (succM us r) k T i).length < k + i → i ≤ T.length →
    ∃ e5' e6' e7' e8', loopW (cB (c2 gLt (cV 5) (cA gLen (aC (cV 4) aN)))) L1__law_ways (k + n) [some (.d (.tuple (encU us))), some (.d (.int r)), st, some (.ot (encD T)), some (.ol (encQ T)), some (.d (.int i)), e6, e7, e8]
      = .nx [some (.d (.tuple (encU us))), some (.d (.int r)), st, some (.ot (encD (runB (succM us r) k T i))), some (.ol (encQ (runB (succM us r) k T i))), e5', e6', e7', e8']
  | 0, T, i, e6, e7, e8, w, hz, hf, hi => by
    unfold runB at hf
    omega
  | k + 1, T, i, e6, e7, e8, w, hz, hf, hi => by
    have hq : (encQ T).length = T.length := List.length_map ..
    rw [show k + 1 + n = (k + n) + 1 by omega, loopW_succ]
    unfold runB
    unfold runB at hz hf
    cases e : T[i]? with
    | none =>
      have hge : T.length ≤ i := List.getElem?_eq_none_iff.mp e
      have hdec : decide ((i : Int) < (T.length : Int)) = false := decide_eq_false (by omega)
      simp only [e_nil, e_seq, e_fz, e_bk, e_ct, e_ret, e_retN, e_drop, e_set, e_if, e_for, e_cC, e_c2, e_c1, e_cA, e_aN, e_aC, e_cB, e_asB, e_bNot, e_bAnd, e_bOr, e_vAnd, e_vOr, e_vNot, e_vIf, e_bYes, e_iL, e_iT, e_iLb, e_iR, e_gL1, e_gL2, e_gL3, e_gT, e_gLb1, e_gLb2, e_gLb3, e_gLb4, e_nb1, e_nb2, e_bor1, e_bor2, e_bor3, e_bor4, e_arg1, e_arg2, e_arg3, e_arg4, e_putd, e_puto, e_toD1, e_toD2, e_allD0, e_allD1, e_allD2, e_gTupl, e_gList, e_tgnm, e_tgtp, e_tg0, e_tg1, e_sq1, e_sq2, e_sq3, e_sq4, e_sq5, e_qv2, e_qv3, e_qv4, e_qv5, e_data1, e_data2, e_data3, e_okI, e_okB, e_i2, e_sub, e_mul, e_mod, e_div, e_pow, e_lt, e_le, e_gt, e_ge, e_neg, e_addI, e_addS, e_addT, e_addL1, e_addL2, e_addL3, e_addL4, e_addL5, e_addL6, e_addL7, e_addL8, e_addL9, e_eq, e_ne, e_in, e_notIn, e_inT, e_inT2, e_inL1, e_inL2, e_inL3, e_is, e_isNot, e_isN1, e_isN2, e_isN3, e_isN4, e_isN5, e_isN6, e_isN7, e_ixT, e_ixL, e_ixO, e_ixB, e_ixSc, e_lenT, e_lenL, e_lenO, e_lenB, e_lenSc, e_lenS, e_tupT, e_tupL, e_tupO, e_tupB, e_lisT, e_lisL, e_lisO, e_lisB, e_min2, e_max2, e_any, e_all, e_sum, e_sorted, e_rev, e_sl, e_oN, e_isi, e_lc, e_wipe0, e_wipe1, e_iA, e_iAb, e_gAq1, e_gAq2, e_gAq3, e_gAqb1, e_gAqb2, e_gAqb3, e_gAqb4, e_no, e_cCh, e_cChI, e_aug, e_decT, e_decF, e_cDispS, e_cDT, e_cDK, e_cDisp1, e_storeA, e_stR1, e_stR2, e_stR3, e_sd1, e_keyD1, e_keyD2, e_keyTD, e_intsD, e_intsD0, e_borT, e_borT2, e_borK, e_borK2, e_argT, e_argT2, e_argK, e_argK2, e_nbT, e_nbK, e_putT, e_putK, e_gAt1, e_gAt2, e_gAt3, e_gAt4, e_gGetDK, e_gGetDT, e_gIxD, e_gInD, e_gNotInD, e_cGet1, e_cGet2, e_dk1, e_dk2, e_dk3, e_dk4, e_dt1, e_dt2, e_del, atI_zero, e_at1, e_at2, e_at3, e_at4, e_at5, e_at6, e_at7, e_at8, e_at9, e_atm, e_V, e_retV, e_unp, e_app, e_store, e_fzE, oS, rsO_some, Rs.bind_ok, Rs.bind_no, Rs.out_ok, Out.then_nx, Out.then_rt, Out.then_ct, Out.then_bk, fin_rt, fin_nx, List.getElem?_cons_zero, List.getElem?_cons_succ, List.set_cons_succ, List.set_cons_zero, List.length_cons, List.length_nil, Nat.reduceAdd, Nat.reduceLT, Nat.reduceLeDiff, Nat.reduceEqDiff, if_true, if_false, Bool.false_eq_true, Bool.not_true, Bool.not_false, and_self, true_and, and_true, List.map_cons, List.map_nil, Option.map_some, sh_int, sh_bool, sh_none, sh_tup, sh_lst, eqv_int, reduceIte, Option.bind_some, Option.bind_none, kitB_ll, kitB_lt, kitB_tt, kitB_tl, kitB_ii, tyD_list, tyD_int, Bool.true_and, Bool.false_and, Bool.and_true, Bool.and_false, Bool.or_true, Bool.true_or, Bool.false_or, Bool.or_false, Bool.and_self, Bool.or_self, e_cAK, List.append_nil, List.nil_append, List.cons_append, e_andB, e_orB, e_andR, e_orR, tyD_tuple, eqv_bool, eqv_none, tyD_bool, tyD_str, tyD_none, kitB_bb, kitB_nb, kitB_bi, kitB_ib, kitB_nl, kitB_nt, beq_self_eq_true, hq, hdec]
      exact ⟨_, _, _, _, rfl⟩
    | some f =>
      have hil := (List.getElem?_eq_some_iff.mp e).1
      have hdec : decide ((i : Int) < (T.length : Int)) = true := decide_eq_true (by omega)
      have hmem := List.mem_of_getElem? e
      have hfp : tget T f.1 = some f.2 := tget_of w.nodup hmem
      have hfc := w.conf f hmem
      rw [e] at hz hf
      simp only at hz hf
      have pre := expB_pre (succ := succM us r) T f.1 f.2
      have pre2 := runB_pre (succ := succM us r) k (expB (succM us r) T f.1 f.2) (i + 1)
      have hT1 := pre.length_le
      have hT2 := pre2.length_le
      have hix : atI (encQ T) (i : Int) = some (tupD f.1) := by
        rw [atI_lt (by omega) (by rw [hq]; omega)]
        unfold encQ
        rw [List.getElem?_map, show ((i : Int)).toNat = i by omega, e]
        rfl
      have hr := e_R1n (n := us.length) (by omega)
      rw [rng_nat] at hr
      obtain ⟨e7', e8', hin⟩ := ways_in us r st f.1 f.2 (.int ((i : Int) + 1)) hw (by omega) (List.range us.length) T e7 e8 (fun m hm => List.mem_range.mp hm) hfp (by simp; omega)
      obtain ⟨f5, f6, f7, f8, ih⟩ := ways_while us r st hw hu hr8 n k (expB (succM us r) T f.1 f.2) (i + 1) (some (.d (tupD f.1))) e7' e8' (w.next hr8 hmem) hz (by omega) (by omega)
      refine ⟨f5, f6, f7, f8, ?_⟩
      have hb : L1__law_ways [some (.d (.tuple (encU us))), some (.d (.int r)), st, some (.ot (encD T)), some (.ol (encQ T)), some (.d (.int i)), e6, e7, e8] = .nx [some (.d (.tuple (encU us))), some (.d (.int r)), st, some (.ot (encD (expB (succM us r) T f.1 f.2))), some (.ol (encQ (expB (succM us r) T f.1 f.2))), some (.d (.int ((i : Int) + 1))), some (.d (tupD f.1)), e7', e8'] := by
        generalize hX : L1__law_ways _ = X
        unfold L1__law_ways at hX
        simp only [e_nil, e_seq, e_fz, e_bk, e_ct, e_ret, e_retN, e_drop, e_set, e_if, e_for, e_cC, e_c2, e_c1, e_cA, e_aN, e_aC, e_cB, e_asB, e_bNot, e_bAnd, e_bOr, e_vAnd, e_vOr, e_vNot, e_vIf, e_bYes, e_iL, e_iT, e_iLb, e_iR, e_gL1, e_gL2, e_gL3, e_gT, e_gLb1, e_gLb2, e_gLb3, e_gLb4, e_nb1, e_nb2, e_bor1, e_bor2, e_bor3, e_bor4, e_arg1, e_arg2, e_arg3, e_arg4, e_putd, e_puto, e_toD1, e_toD2, e_allD0, e_allD1, e_allD2, e_gTupl, e_gList, e_tgnm, e_tgtp, e_tg0, e_tg1, e_sq1, e_sq2, e_sq3, e_sq4, e_sq5, e_qv2, e_qv3, e_qv4, e_qv5, e_data1, e_data2, e_data3, e_okI, e_okB, e_i2, e_sub, e_mul, e_mod, e_div, e_pow, e_lt, e_le, e_gt, e_ge, e_neg, e_addI, e_addS, e_addT, e_addL1, e_addL2, e_addL3, e_addL4, e_addL5, e_addL6, e_addL7, e_addL8, e_addL9, e_eq, e_ne, e_in, e_notIn, e_inT, e_inT2, e_inL1, e_inL2, e_inL3, e_is, e_isNot, e_isN1, e_isN2, e_isN3, e_isN4, e_isN5, e_isN6, e_isN7, e_ixT, e_ixL, e_ixO, e_ixB, e_ixSc, e_lenT, e_lenL, e_lenO, e_lenB, e_lenSc, e_lenS, e_tupT, e_tupL, e_tupO, e_tupB, e_lisT, e_lisL, e_lisO, e_lisB, e_min2, e_max2, e_any, e_all, e_sum, e_sorted, e_rev, e_sl, e_oN, e_isi, e_lc, e_wipe0, e_wipe1, e_iA, e_iAb, e_gAq1, e_gAq2, e_gAq3, e_gAqb1, e_gAqb2, e_gAqb3, e_gAqb4, e_no, e_cCh, e_cChI, e_aug, e_decT, e_decF, e_cDispS, e_cDT, e_cDK, e_cDisp1, e_storeA, e_stR1, e_stR2, e_stR3, e_sd1, e_keyD1, e_keyD2, e_keyTD, e_intsD, e_intsD0, e_borT, e_borT2, e_borK, e_borK2, e_argT, e_argT2, e_argK, e_argK2, e_nbT, e_nbK, e_putT, e_putK, e_gAt1, e_gAt2, e_gAt3, e_gAt4, e_gGetDK, e_gGetDT, e_gIxD, e_gInD, e_gNotInD, e_cGet1, e_cGet2, e_dk1, e_dk2, e_dk3, e_dk4, e_dt1, e_dt2, e_del, atI_zero, e_at1, e_at2, e_at3, e_at4, e_at5, e_at6, e_at7, e_at8, e_at9, e_atm, e_V, e_retV, e_unp, e_app, e_store, e_fzE, oS, rsO_some, Rs.bind_ok, Rs.bind_no, Rs.out_ok, Out.then_nx, Out.then_rt, Out.then_ct, Out.then_bk, fin_rt, fin_nx, List.getElem?_cons_zero, List.getElem?_cons_succ, List.set_cons_succ, List.set_cons_zero, List.length_cons, List.length_nil, Nat.reduceAdd, Nat.reduceLT, Nat.reduceLeDiff, Nat.reduceEqDiff, if_true, if_false, Bool.false_eq_true, Bool.not_true, Bool.not_false, and_self, true_and, and_true, List.map_cons, List.map_nil, Option.map_some, sh_int, sh_bool, sh_none, sh_tup, sh_lst, eqv_int, reduceIte, Option.bind_some, Option.bind_none, kitB_ll, kitB_lt, kitB_tt, kitB_tl, kitB_ii, tyD_list, tyD_int, Bool.true_and, Bool.false_and, Bool.and_true, Bool.and_false, Bool.or_true, Bool.true_or, Bool.false_or, Bool.or_false, Bool.and_self, Bool.or_self, e_cAK, List.append_nil, List.nil_append, List.cons_append, e_andB, e_orB, e_andR, e_orR, tyD_tuple, eqv_bool, eqv_none, tyD_bool, tyD_str, tyD_none, kitB_bb, kitB_nb, kitB_bi, kitB_ib, kitB_nl, kitB_nt, beq_self_eq_true, hix, encU_len, hr, hin] at hX
        subst hX
        rfl
      simp only [e_nil, e_seq, e_fz, e_bk, e_ct, e_ret, e_retN, e_drop, e_set, e_if, e_for, e_cC, e_c2, e_c1, e_cA, e_aN, e_aC, e_cB, e_asB, e_bNot, e_bAnd, e_bOr, e_vAnd, e_vOr, e_vNot, e_vIf, e_bYes, e_iL, e_iT, e_iLb, e_iR, e_gL1, e_gL2, e_gL3, e_gT, e_gLb1, e_gLb2, e_gLb3, e_gLb4, e_nb1, e_nb2, e_bor1, e_bor2, e_bor3, e_bor4, e_arg1, e_arg2, e_arg3, e_arg4, e_putd, e_puto, e_toD1, e_toD2, e_allD0, e_allD1, e_allD2, e_gTupl, e_gList, e_tgnm, e_tgtp, e_tg0, e_tg1, e_sq1, e_sq2, e_sq3, e_sq4, e_sq5, e_qv2, e_qv3, e_qv4, e_qv5, e_data1, e_data2, e_data3, e_okI, e_okB, e_i2, e_sub, e_mul, e_mod, e_div, e_pow, e_lt, e_le, e_gt, e_ge, e_neg, e_addI, e_addS, e_addT, e_addL1, e_addL2, e_addL3, e_addL4, e_addL5, e_addL6, e_addL7, e_addL8, e_addL9, e_eq, e_ne, e_in, e_notIn, e_inT, e_inT2, e_inL1, e_inL2, e_inL3, e_is, e_isNot, e_isN1, e_isN2, e_isN3, e_isN4, e_isN5, e_isN6, e_isN7, e_ixT, e_ixL, e_ixO, e_ixB, e_ixSc, e_lenT, e_lenL, e_lenO, e_lenB, e_lenSc, e_lenS, e_tupT, e_tupL, e_tupO, e_tupB, e_lisT, e_lisL, e_lisO, e_lisB, e_min2, e_max2, e_any, e_all, e_sum, e_sorted, e_rev, e_sl, e_oN, e_isi, e_lc, e_wipe0, e_wipe1, e_iA, e_iAb, e_gAq1, e_gAq2, e_gAq3, e_gAqb1, e_gAqb2, e_gAqb3, e_gAqb4, e_no, e_cCh, e_cChI, e_aug, e_decT, e_decF, e_cDispS, e_cDT, e_cDK, e_cDisp1, e_storeA, e_stR1, e_stR2, e_stR3, e_sd1, e_keyD1, e_keyD2, e_keyTD, e_intsD, e_intsD0, e_borT, e_borT2, e_borK, e_borK2, e_argT, e_argT2, e_argK, e_argK2, e_nbT, e_nbK, e_putT, e_putK, e_gAt1, e_gAt2, e_gAt3, e_gAt4, e_gGetDK, e_gGetDT, e_gIxD, e_gInD, e_gNotInD, e_cGet1, e_cGet2, e_dk1, e_dk2, e_dk3, e_dk4, e_dt1, e_dt2, e_del, atI_zero, e_at1, e_at2, e_at3, e_at4, e_at5, e_at6, e_at7, e_at8, e_at9, e_atm, e_V, e_retV, e_unp, e_app, e_store, e_fzE, oS, rsO_some, Rs.bind_ok, Rs.bind_no, Rs.out_ok, Out.then_nx, Out.then_rt, Out.then_ct, Out.then_bk, fin_rt, fin_nx, List.getElem?_cons_zero, List.getElem?_cons_succ, List.set_cons_succ, List.set_cons_zero, List.length_cons, List.length_nil, Nat.reduceAdd, Nat.reduceLT, Nat.reduceLeDiff, Nat.reduceEqDiff, if_true, if_false, Bool.false_eq_true, Bool.not_true, Bool.not_false, and_self, true_and, and_true, List.map_cons, List.map_nil, Option.map_some, sh_int, sh_bool, sh_none, sh_tup, sh_lst, eqv_int, reduceIte, Option.bind_some, Option.bind_none, kitB_ll, kitB_lt, kitB_tt, kitB_tl, kitB_ii, tyD_list, tyD_int, Bool.true_and, Bool.false_and, Bool.and_true, Bool.and_false, Bool.or_true, Bool.true_or, Bool.false_or, Bool.or_false, Bool.and_self, Bool.or_self, e_cAK, List.append_nil, List.nil_append, List.cons_append, e_andB, e_orB, e_andR, e_orR, tyD_tuple, eqv_bool, eqv_none, tyD_bool, tyD_str, tyD_none, kitB_bb, kitB_nb, kitB_bi, kitB_ib, kitB_nl, kitB_nt, beq_self_eq_true, hq, hdec, hb, lp_nx]
      exact ih
/-- nothing is in the table of a start that holds too much -/
def waysM (us : List (List Int)) (r : Nat) (st : List Int) : List (List Int × List Int) := if st.length ≤ r then tabM us r st else []
theorem ways_ok (us : List (List Int)) (r : Nat) (st : List Int) (hw : ∀ s, (usAt us s).length ≤ 1000000) (hu : us.length ≤ 8) (hr8 : r ≤ 800) (hst : st.length ≤ 800) (hc : Cf us.length st) : F__law_ways [.d (.tuple (encU us)), .d (.int r), .d (tupD st)] = .ok (.ot (encD (waysM us r st))) := by
  have hln : gLen [.d (tupD st)] = .ok (.d (.int st.length)) := by rw [tupD, e_lenT, List.length_map]
  have hk : keyTD (tupD st) = some st := intsD_map st
  show (sSeq _ _ [some (.d (.tuple (encU us))), some (.d (.int r)), some (.d (tupD st)), none, none, none, none, none, none]).fin = _
  unfold waysM
  by_cases c : st.length ≤ r
  · have hdec : decide ((st.length : Int) ≤ (r : Int)) = true := decide_eq_true (by omega)
    obtain ⟨f5, f6, f7, f8, hl⟩ := ways_while us r (some (.d (tupD st))) hw hu hr8 99700 300 [(st, [])] 0 none none none (row_first us r st hst) (by have := (tabM_ok (r := r) hu hc).2; unfold tabM at this; omega) (by have := (tabM_ok (r := r) hu hc).2; unfold tabM at this; omega) (by simp)
    have hl : loopW (cB (c2 gLt (cV 5) (cA gLen (aC (cV 4) aN)))) L1__law_ways 100000 [some (.d (.tuple (encU us))), some (.d (.int r)), some (.d (tupD st)), some (.ot [(st, .int 0)]), some (.ol [tupD st]), some (.d (.int 0)), none, none, none] = .nx [some (.d (.tuple (encU us))), some (.d (.int r)), some (.d (tupD st)), some (.ot (encD (tabM us r st))), some (.ol (encQ (tabM us r st))), f5, f6, f7, f8] := hl
    have hp : dPut [] st (.int 0) = [(st, PyData.int 0)] := rfl
    rw [if_pos c]
    simp only [e_nil, e_seq, e_fz, e_bk, e_ct, e_ret, e_retN, e_drop, e_set, e_if, e_for, e_cC, e_c2, e_c1, e_cA, e_aN, e_aC, e_cB, e_asB, e_bNot, e_bAnd, e_bOr, e_vAnd, e_vOr, e_vNot, e_vIf, e_bYes, e_iL, e_iT, e_iLb, e_iR, e_gL1, e_gL2, e_gL3, e_gT, e_gLb1, e_gLb2, e_gLb3, e_gLb4, e_nb1, e_nb2, e_bor1, e_bor2, e_bor3, e_bor4, e_arg1, e_arg2, e_arg3, e_arg4, e_putd, e_puto, e_toD1, e_toD2, e_allD0, e_allD1, e_allD2, e_gTupl, e_gList, e_tgnm, e_tgtp, e_tg0, e_tg1, e_sq1, e_sq2, e_sq3, e_sq4, e_sq5, e_qv2, e_qv3, e_qv4, e_qv5, e_data1, e_data2, e_data3, e_okI, e_okB, e_i2, e_sub, e_mul, e_mod, e_div, e_pow, e_lt, e_le, e_gt, e_ge, e_neg, e_addI, e_addS, e_addT, e_addL1, e_addL2, e_addL3, e_addL4, e_addL5, e_addL6, e_addL7, e_addL8, e_addL9, e_eq, e_ne, e_in, e_notIn, e_inT, e_inT2, e_inL1, e_inL2, e_inL3, e_is, e_isNot, e_isN1, e_isN2, e_isN3, e_isN4, e_isN5, e_isN6, e_isN7, e_ixT, e_ixL, e_ixO, e_ixB, e_ixSc, e_lenT, e_lenL, e_lenO, e_lenB, e_lenSc, e_lenS, e_tupT, e_tupL, e_tupO, e_tupB, e_lisT, e_lisL, e_lisO, e_lisB, e_min2, e_max2, e_any, e_all, e_sum, e_sorted, e_rev, e_sl, e_oN, e_isi, e_lc, e_wipe0, e_wipe1, e_iA, e_iAb, e_gAq1, e_gAq2, e_gAq3, e_gAqb1, e_gAqb2, e_gAqb3, e_gAqb4, e_no, e_cCh, e_cChI, e_aug, e_decT, e_decF, e_cDispS, e_cDT, e_cDK, e_cDisp1, e_storeA, e_stR1, e_stR2, e_stR3, e_sd1, e_keyD1, e_keyD2, e_keyTD, e_intsD, e_intsD0, e_borT, e_borT2, e_borK, e_borK2, e_argT, e_argT2, e_argK, e_argK2, e_nbT, e_nbK, e_putT, e_putK, e_gAt1, e_gAt2, e_gAt3, e_gAt4, e_gGetDK, e_gGetDT, e_gIxD, e_gInD, e_gNotInD, e_cGet1, e_cGet2, e_dk1, e_dk2, e_dk3, e_dk4, e_dt1, e_dt2, e_del, atI_zero, e_at1, e_at2, e_at3, e_at4, e_at5, e_at6, e_at7, e_at8, e_at9, e_atm, e_V, e_retV, e_unp, e_app, e_store, e_fzE, oS, rsO_some, Rs.bind_ok, Rs.bind_no, Rs.out_ok, Out.then_nx, Out.then_rt, Out.then_ct, Out.then_bk, fin_rt, fin_nx, List.getElem?_cons_zero, List.getElem?_cons_succ, List.set_cons_succ, List.set_cons_zero, List.length_cons, List.length_nil, Nat.reduceAdd, Nat.reduceLT, Nat.reduceLeDiff, Nat.reduceEqDiff, if_true, if_false, Bool.false_eq_true, Bool.not_true, Bool.not_false, and_self, true_and, and_true, List.map_cons, List.map_nil, Option.map_some, sh_int, sh_bool, sh_none, sh_tup, sh_lst, eqv_int, reduceIte, Option.bind_some, Option.bind_none, kitB_ll, kitB_lt, kitB_tt, kitB_tl, kitB_ii, tyD_list, tyD_int, Bool.true_and, Bool.false_and, Bool.and_true, Bool.and_false, Bool.or_true, Bool.true_or, Bool.false_or, Bool.or_false, Bool.and_self, Bool.or_self, e_cAK, List.append_nil, List.nil_append, List.cons_append, e_andB, e_orB, e_andR, e_orR, tyD_tuple, eqv_bool, eqv_none, tyD_bool, tyD_str, tyD_none, kitB_bb, kitB_nb, kitB_bi, kitB_ib, kitB_nl, kitB_nt, beq_self_eq_true, hln, hdec, hk, Nat.zero_le, hp, e_while, hl]
  · have hdec : decide ((st.length : Int) ≤ (r : Int)) = false := decide_eq_false (by omega)
    rw [if_neg c]
    have hl : loopW (cB (c2 gLt (cV 5) (cA gLen (aC (cV 4) aN)))) L1__law_ways 100000 [some (.d (.tuple (encU us))), some (.d (.int r)), some (.d (tupD st)), some (.ot []), some (.ol []), some (.d (.int 0)), none, none, none] = .nx [some (.d (.tuple (encU us))), some (.d (.int r)), some (.d (tupD st)), some (.ot []), some (.ol []), some (.d (.int 0)), none, none, none] := by
      rw [show (100000 : Nat) = 99999 + 1 from rfl, loopW_succ]
      simp only [e_nil, e_seq, e_fz, e_bk, e_ct, e_ret, e_retN, e_drop, e_set, e_if, e_for, e_cC, e_c2, e_c1, e_cA, e_aN, e_aC, e_cB, e_asB, e_bNot, e_bAnd, e_bOr, e_vAnd, e_vOr, e_vNot, e_vIf, e_bYes, e_iL, e_iT, e_iLb, e_iR, e_gL1, e_gL2, e_gL3, e_gT, e_gLb1, e_gLb2, e_gLb3, e_gLb4, e_nb1, e_nb2, e_bor1, e_bor2, e_bor3, e_bor4, e_arg1, e_arg2, e_arg3, e_arg4, e_putd, e_puto, e_toD1, e_toD2, e_allD0, e_allD1, e_allD2, e_gTupl, e_gList, e_tgnm, e_tgtp, e_tg0, e_tg1, e_sq1, e_sq2, e_sq3, e_sq4, e_sq5, e_qv2, e_qv3, e_qv4, e_qv5, e_data1, e_data2, e_data3, e_okI, e_okB, e_i2, e_sub, e_mul, e_mod, e_div, e_pow, e_lt, e_le, e_gt, e_ge, e_neg, e_addI, e_addS, e_addT, e_addL1, e_addL2, e_addL3, e_addL4, e_addL5, e_addL6, e_addL7, e_addL8, e_addL9, e_eq, e_ne, e_in, e_notIn, e_inT, e_inT2, e_inL1, e_inL2, e_inL3, e_is, e_isNot, e_isN1, e_isN2, e_isN3, e_isN4, e_isN5, e_isN6, e_isN7, e_ixT, e_ixL, e_ixO, e_ixB, e_ixSc, e_lenT, e_lenL, e_lenO, e_lenB, e_lenSc, e_lenS, e_tupT, e_tupL, e_tupO, e_tupB, e_lisT, e_lisL, e_lisO, e_lisB, e_min2, e_max2, e_any, e_all, e_sum, e_sorted, e_rev, e_sl, e_oN, e_isi, e_lc, e_wipe0, e_wipe1, e_iA, e_iAb, e_gAq1, e_gAq2, e_gAq3, e_gAqb1, e_gAqb2, e_gAqb3, e_gAqb4, e_no, e_cCh, e_cChI, e_aug, e_decT, e_decF, e_cDispS, e_cDT, e_cDK, e_cDisp1, e_storeA, e_stR1, e_stR2, e_stR3, e_sd1, e_keyD1, e_keyD2, e_keyTD, e_intsD, e_intsD0, e_borT, e_borT2, e_borK, e_borK2, e_argT, e_argT2, e_argK, e_argK2, e_nbT, e_nbK, e_putT, e_putK, e_gAt1, e_gAt2, e_gAt3, e_gAt4, e_gGetDK, e_gGetDT, e_gIxD, e_gInD, e_gNotInD, e_cGet1, e_cGet2, e_dk1, e_dk2, e_dk3, e_dk4, e_dt1, e_dt2, e_del, atI_zero, e_at1, e_at2, e_at3, e_at4, e_at5, e_at6, e_at7, e_at8, e_at9, e_atm, e_V, e_retV, e_unp, e_app, e_store, e_fzE, oS, rsO_some, Rs.bind_ok, Rs.bind_no, Rs.out_ok, Out.then_nx, Out.then_rt, Out.then_ct, Out.then_bk, fin_rt, fin_nx, List.getElem?_cons_zero, List.getElem?_cons_succ, List.set_cons_succ, List.set_cons_zero, List.length_cons, List.length_nil, Nat.reduceAdd, Nat.reduceLT, Nat.reduceLeDiff, Nat.reduceEqDiff, if_true, if_false, Bool.false_eq_true, Bool.not_true, Bool.not_false, and_self, true_and, and_true, List.map_cons, List.map_nil, Option.map_some, sh_int, sh_bool, sh_none, sh_tup, sh_lst, eqv_int, reduceIte, Option.bind_some, Option.bind_none, kitB_ll, kitB_lt, kitB_tt, kitB_tl, kitB_ii, tyD_list, tyD_int, Bool.true_and, Bool.false_and, Bool.and_true, Bool.and_false, Bool.or_true, Bool.true_or, Bool.false_or, Bool.or_false, Bool.and_self, Bool.or_self, e_cAK, List.append_nil, List.nil_append, List.cons_append, e_andB, e_orB, e_andR, e_orR, tyD_tuple, eqv_bool, eqv_none, tyD_bool, tyD_str, tyD_none, kitB_bb, kitB_nb, kitB_bi, kitB_ib, kitB_nl, kitB_nt, beq_self_eq_true]
      rfl
    simp only [e_nil, e_seq, e_fz, e_bk, e_ct, e_ret, e_retN, e_drop, e_set, e_if, e_for, e_cC, e_c2, e_c1, e_cA, e_aN, e_aC, e_cB, e_asB, e_bNot, e_bAnd, e_bOr, e_vAnd, e_vOr, e_vNot, e_vIf, e_bYes, e_iL, e_iT, e_iLb, e_iR, e_gL1, e_gL2, e_gL3, e_gT, e_gLb1, e_gLb2, e_gLb3, e_gLb4, e_nb1, e_nb2, e_bor1, e_bor2, e_bor3, e_bor4, e_arg1, e_arg2, e_arg3, e_arg4, e_putd, e_puto, e_toD1, e_toD2, e_allD0, e_allD1, e_allD2, e_gTupl, e_gList, e_tgnm, e_tgtp, e_tg0, e_tg1, e_sq1, e_sq2, e_sq3, e_sq4, e_sq5, e_qv2, e_qv3, e_qv4, e_qv5, e_data1, e_data2, e_data3, e_okI, e_okB, e_i2, e_sub, e_mul, e_mod, e_div, e_pow, e_lt, e_le, e_gt, e_ge, e_neg, e_addI, e_addS, e_addT, e_addL1, e_addL2, e_addL3, e_addL4, e_addL5, e_addL6, e_addL7, e_addL8, e_addL9, e_eq, e_ne, e_in, e_notIn, e_inT, e_inT2, e_inL1, e_inL2, e_inL3, e_is, e_isNot, e_isN1, e_isN2, e_isN3, e_isN4, e_isN5, e_isN6, e_isN7, e_ixT, e_ixL, e_ixO, e_ixB, e_ixSc, e_lenT, e_lenL, e_lenO, e_lenB, e_lenSc, e_lenS, e_tupT, e_tupL, e_tupO, e_tupB, e_lisT, e_lisL, e_lisO, e_lisB, e_min2, e_max2, e_any, e_all, e_sum, e_sorted, e_rev, e_sl, e_oN, e_isi, e_lc, e_wipe0, e_wipe1, e_iA, e_iAb, e_gAq1, e_gAq2, e_gAq3, e_gAqb1, e_gAqb2, e_gAqb3, e_gAqb4, e_no, e_cCh, e_cChI, e_aug, e_decT, e_decF, e_cDispS, e_cDT, e_cDK, e_cDisp1, e_storeA, e_stR1, e_stR2, e_stR3, e_sd1, e_keyD1, e_keyD2, e_keyTD, e_intsD, e_intsD0, e_borT, e_borT2, e_borK, e_borK2, e_argT, e_argT2, e_argK, e_argK2, e_nbT, e_nbK, e_putT, e_putK, e_gAt1, e_gAt2, e_gAt3, e_gAt4, e_gGetDK, e_gGetDT, e_gIxD, e_gInD, e_gNotInD, e_cGet1, e_cGet2, e_dk1, e_dk2, e_dk3, e_dk4, e_dt1, e_dt2, e_del, atI_zero, e_at1, e_at2, e_at3, e_at4, e_at5, e_at6, e_at7, e_at8, e_at9, e_atm, e_V, e_retV, e_unp, e_app, e_store, e_fzE, oS, rsO_some, Rs.bind_ok, Rs.bind_no, Rs.out_ok, Out.then_nx, Out.then_rt, Out.then_ct, Out.then_bk, fin_rt, fin_nx, List.getElem?_cons_zero, List.getElem?_cons_succ, List.set_cons_succ, List.set_cons_zero, List.length_cons, List.length_nil, Nat.reduceAdd, Nat.reduceLT, Nat.reduceLeDiff, Nat.reduceEqDiff, if_true, if_false, Bool.false_eq_true, Bool.not_true, Bool.not_false, and_self, true_and, and_true, List.map_cons, List.map_nil, Option.map_some, sh_int, sh_bool, sh_none, sh_tup, sh_lst, eqv_int, reduceIte, Option.bind_some, Option.bind_none, kitB_ll, kitB_lt, kitB_tt, kitB_tl, kitB_ii, tyD_list, tyD_int, Bool.true_and, Bool.false_and, Bool.and_true, Bool.and_false, Bool.or_true, Bool.true_or, Bool.false_or, Bool.or_false, Bool.and_self, Bool.or_self, e_cAK, List.append_nil, List.nil_append, List.cons_append, e_andB, e_orB, e_andR, e_orR, tyD_tuple, eqv_bool, eqv_none, tyD_bool, tyD_str, tyD_none, kitB_bb, kitB_nb, kitB_bi, kitB_ib, kitB_nl, kitB_nt, beq_self_eq_true, hln, hdec, e_while, hl]
    rfl
theorem tg_encT (us : List (List Int)) (ts : List Int) (i j : Nat) (env : VEnv) : tgE (.tp [i, j]) (encT us ts) env = tgEs [i, j] [.tuple (encU us), tupD ts] env := rfl
theorem kd_tup (h : List Int) : keyTD (tupD h) = some h := intsD_map h
theorem len_tupD (h : List Int) : gLen [.d (tupD h)] = .ok (.d (.int h.length)) := by rw [tupD, e_lenT, List.length_map]
theorem sh_tupD (h : List Int) : SeqAt.shaped (tupD h) = true := sh_tup _
theorem eqv_tupD (h g : List Int) : PyData.eqv (tupD h) (tupD g) = decide (h = g) := eqv_tup _ _
theorem cf_nil (n : Nat) : Cf n [] := ⟨.nil, by simp⟩
theorem draw1 (ns : List Int) (k n : Nat) (h : 0 < n ∧ n < 1000000) : ∃ d : Nat, F__law_draw [.sc ns, .d (.int k), .d (.list [.int n])] = .ok (.ol [.int d]) ∧ d < n := by
  obtain ⟨nd, p, l, b⟩ := draw_nat ns k [n] (by simpa using h) (by simp)
  obtain ⟨d, rfl⟩ : ∃ a, nd = [a] := by match nd, l with | [a], _ => exact ⟨a, rfl⟩
  obtain ⟨d', q, b⟩ := b 0 n rfl
  cases q
  exact ⟨d, p, b⟩
/-! ### the least of the shortest plans, by the table of the goal -/
structure Best (us : List (List Int)) (r : Nat) (h g p : List Int) : Prop where
  ok : okR us r h p
  fin : endM h p = g
  least : ∀ q, okR us r h q → endM h q = g → p = q ∨ SL (· < ·) p q
theorem planM_Best {us : List (List Int)} {r : Nat} {h g p : List Int} (hu : us.length ≤ 8) (hc : Cf us.length h) (e : planM us r h g = some p) : Best us r h g p := by
  obtain ⟨h1, h2⟩ := planM_sound hu hc e
  refine ⟨h1, h2, fun q k1 k2 => ?_⟩
  obtain ⟨q', e', z⟩ := planM_best hu hc k1
  rw [k2, e] at e'
  cases e'
  exact z
theorem SL_cons {x : Int} {p q : List Int} (h : x :: p = x :: q ∨ SL (· < ·) (x :: p) (x :: q)) : p = q ∨ SL (· < ·) p q := by
  rcases h with h | h | ⟨h1, h2 | ⟨_, h2⟩⟩
  · left; injection h
  · right; left; simpa using h
  · omega
  · right; right; exact ⟨by simpa using h1, h2⟩
theorem Best.tail {us : List (List Int)} {r : Nat} {h g t : List Int} {m : Int} (b : Best us r h g (m :: t)) : Best us r (movM h m) g t :=
  ⟨b.ok.2, b.fin, fun q k1 k2 => SL_cons (b.least (m :: q) ⟨b.ok.1, k1⟩ k2)⟩
theorem okR_rev {most : Nat} {us : List (List Int)} {ts : List Int} (wf : WF most us ts) {r : Nat} : ∀ (p h : List Int), Up h → h.length ≤ r → okR us r h p → okR us r (endM h p) p.reverse ∧ endM (endM h p) p.reverse = h
  | [], h, _, _, _ => ⟨trivial, rfl⟩
  | s :: p, h, u, hl, k => by
    obtain ⟨i1, i2⟩ := okR_rev wf p (movM h s) (movM_up u s) k.1.2.2.2 k.2
    have e : endM h (s :: p) = endM (movM h s) p := rfl
    rw [e, List.reverse_cons, okR_snoc, end_snoc, i2, movM_back u, can_back wf k.1.1 k.1.2.1]
    exact ⟨⟨i1, k.1.1, k.1.2.1, k.1.2.2.1, hl⟩, rfl⟩
theorem cf_end {us : List (List Int)} {r : Nat} {p h : List Int} (hc : Cf us.length h) (k : okR us r h p) : Cf us.length (endM h p) := hc.path (path_iff.mpr ⟨k, rfl⟩)
theorem len_end {us : List (List Int)} {r : Nat} : ∀ {p h : List Int}, h.length ≤ r → okR us r h p → (endM h p).length ≤ r
  | [], _, hl, _ => hl
  | s :: p, h, _, k => len_end (p := p) (h := movM h s) k.1.2.2.2 k.2
/-- how far a configuration is from the goal -/
def distM (us : List (List Int)) (r : Nat) (g c : List Int) : Option Nat := (planM us r g c).map List.length
theorem dist_best {most : Nat} {us : List (List Int)} {ts : List Int} (wf : WF most us ts) {r : Nat} {h g p : List Int} (hu : us.length ≤ 8) (hc : Cf us.length h) (hl : h.length ≤ r) (b : Best us r h g p) : distM us r g h = some p.length := by
  have cg : Cf us.length g := by rw [← b.fin]; exact cf_end hc b.ok
  have lg : g.length ≤ r := by rw [← b.fin]; exact len_end hl b.ok
  obtain ⟨k1, k2⟩ := okR_rev wf p h hc.1 hl b.ok
  rw [b.fin] at k1 k2
  obtain ⟨q, e, z⟩ := planM_best hu cg k1
  rw [k2] at e
  have l1 := SL.len z
  obtain ⟨s1, s2⟩ := planM_sound hu cg e
  obtain ⟨t1, t2⟩ := okR_rev wf q g cg.1 lg s1
  rw [s2] at t1 t2
  have l2 := SL.len (b.least _ t1 t2)
  rw [List.length_reverse] at l1 l2
  unfold distM
  rw [e]
  exact congrArg some (by omega)
theorem dist_none {most : Nat} {us : List (List Int)} {ts : List Int} (wf : WF most us ts) {r : Nat} {h g : List Int} (hu : us.length ≤ 8) (hc : Cf us.length h) (cg : Cf us.length g) (lg : g.length ≤ r) (e : planM us r h g = none) : planM us r g h = none := by
  cases z : planM us r g h with
  | none => rfl
  | some q =>
    obtain ⟨s1, s2⟩ := planM_sound hu cg z
    obtain ⟨t1, t2⟩ := okR_rev wf q g cg.1 lg s1
    rw [s2] at t1 t2
    obtain ⟨q', e', _⟩ := planM_best hu hc t1
    rw [t2, e] at e'
    cases e'
theorem run_row {us : List (List Int)} {r : Nat} (hr : r ≤ 800) : ∀ (k : Nat) (T : List (List Int × List Int)) (i : Nat), Row us r T i → Row us r (runB (succM us r) k T i) (k + i)
  | 0, T, i, w => by rw [Nat.zero_add]; exact w
  | k + 1, T, i, w => by
    unfold runB
    cases e : T[i]? with
    | none => exact ⟨w.nodup, w.conf, fun f hf => by have := w.plan f hf; omega⟩
    | some f =>
      have := run_row hr k _ (i + 1) (w.next hr (List.mem_of_getElem? e))
      rw [show k + 1 + i = k + (i + 1) by omega]
      exact this
theorem plan_short {us : List (List Int)} {r : Nat} {h g p : List Int} (hr : r ≤ 800) (hh : h.length ≤ 800) (e : planM us r h g = some p) : p.length ≤ 300 :=
  (run_row hr 300 _ 0 (row_first us r h hh)).plan _ (tget_mem e)
/-- a step that may be chosen -/
def candM (us : List (List Int)) (r : Nat) (g h : List Int) (n : Nat) (m : Nat) : Bool := canM us h m && decide (distM us r g (movM h m) = some n)
theorem cand_head {most : Nat} {us : List (List Int)} {ts : List Int} (wf : WF most us ts) {r : Nat} {h g t : List Int} {m : Int} (hu : us.length ≤ 8) (hc : Cf us.length h) (b : Best us r h g (m :: t)) : candM us r g h t.length m.toNat = true := by
  have e : ((m.toNat : Nat) : Int) = m := by have := b.ok.1.1; omega
  unfold candM
  rw [e, b.ok.1.2.2.1, dist_best wf hu (hc.mov b.ok.1.1 b.ok.1.2.1) b.ok.1.2.2.2 b.tail, decide_eq_true rfl]
  rfl
theorem cand_least {most : Nat} {us : List (List Int)} {ts : List Int} (wf : WF most us ts) {r : Nat} {h g t : List Int} {m : Int} (hu : us.length ≤ 8) (hc : Cf us.length h) (hl : h.length ≤ r) (b : Best us r h g (m :: t)) {x : Nat} (hx : x < us.length) (hn : (x : Int) < m) : candM us r g h t.length x = false := by
  cases z : candM us r g h t.length x with
  | false => rfl
  | true =>
    exfalso
    unfold candM at z
    simp only [Bool.and_eq_true, decide_eq_true_eq] at z
    obtain ⟨z1, z2⟩ := z
    have cg : Cf us.length g := by rw [← b.fin]; exact cf_end hc b.ok
    have lg : g.length ≤ r := by rw [← b.fin]; exact len_end hl b.ok
    unfold distM at z2
    cases e : planM us r g (movM h x) with
    | none => rw [e] at z2; cases z2
    | some q =>
      rw [e] at z2
      have hq : q.length = t.length := by injection z2
      obtain ⟨s1, s2⟩ := planM_sound hu cg e
      obtain ⟨t1, t2⟩ := okR_rev wf q g cg.1 lg s1
      have lx : (movM h x).length ≤ r := by rw [← s2]; exact len_end lg s1
      rw [s2] at t1 t2
      have := b.least (x :: q.reverse) ⟨⟨by omega, by omega, z1, lx⟩, t1⟩ t2
      rcases this with w | w | ⟨_, w | ⟨w, _⟩⟩
      · injection w with w _; omega
      · simp at w; omega
      · omega
      · omega
theorem best_nil {us : List (List Int)} {r : Nat} {h g : List Int} (b : Best us r h g []) : h = g := b.fin
section
variable (us : List (List Int)) (r : Nat) (g : List Int)
/-- the search for the step -/
theorem first_in {most : Nat} {ts : List Int} (wf : WF most us ts) (e1 e2 e3 e5 e7 : Option RV) (h t : List Int) (m : Int) (hu : us.length ≤ 8) (hw : ∀ s, (usAt us s).length ≤ 1000000) (hc : Cf us.length h) (hl : h.length ≤ r) (hh : h.length ≤ 800) (hg : g.length ≤ r) (b : Best us r h g (m :: t)) (e9 e10 : Option RV) :
    ∃ e9' e10', loopF (.nm 9) L0__law_first ((List.range us.length).map natI) [some (.d (.tuple (encU us))), e1, e2, e3, some (.ot (encD (tabM us r g))), e5, some (.d (tupD h)), e7, some (.d (.int (-1))), e9, e10]
      = .nx [some (.d (.tuple (encU us))), e1, e2, e3, some (.ot (encD (tabM us r g))), e5, some (.d (tupD h)), e7, some (.d (.int m)), e9', e10'] := by
  have hm0 := b.ok.1.1
  have hm1 := b.ok.1.2.1
  have hd : ∀ c, dGet (encD (tabM us r g)) c = (distM us r g c).map (fun n : Nat => PyData.int (n : Int)) := fun c => by
    rw [dGet_D]; unfold distM planM; rw [Option.map_map]; rfl
  have hhere : dGet (encD (tabM us r g)) h = some (.int ((t.length + 1 : Nat) : Int)) := by rw [hd, dist_best wf hu hc hl b]; rfl
  obtain ⟨env', e, c, e9', e10', rfl, hres⟩ := loopF_ex (tg := .nm 9) (f := L0__law_first) (fun i env => ∃ (c : Int) (e9 e10 : Option RV), env = [some (.d (.tuple (encU us))), e1, e2, e3, some (.ot (encD (tabM us r g))), e5, some (.d (tupD h)), e7, some (.d (.int c)), e9, e10] ∧ c = if m < i then m else -1) natI (List.range us.length)
    [some (.d (.tuple (encU us))), e1, e2, e3, some (.ot (encD (tabM us r g))), e5, some (.d (tupD h)), e7, some (.d (.int (-1))), e9, e10] (by
      rintro i env x hx ⟨c, e9, e10, rfl, hres⟩
      obtain ⟨rfl, hi⟩ := range_at hx
      have p1 := law_can_ok us h x (by omega) (by omega) (hw x)
      have p1 : F__law_can [.d (.tuple (encU us)), .d (tupD h), .d (.int x)] = _ := p1
      have p2 : F__law_moved [.d (tupD h), .d (.int x)] = .ok (.d (tupD (movM h x))) := law_moved_ok h x (by omega)
      refine ⟨[some (.d (.tuple (encU us))), e1, e2, e3, some (.ot (encD (tabM us r g))), e5, some (.d (tupD h)), e7, some (.d (.int c)), some (.d (.int x)), e10], rfl, ?_⟩
      generalize hX : L0__law_first _ = X
      unfold L0__law_first at hX
      by_cases c1 : m < x
      · rw [if_pos c1] at hres
        have d1 : decide (c < 0) = false := decide_eq_false (by omega)
        simp only [e_nil, e_seq, e_fz, e_bk, e_ct, e_ret, e_retN, e_drop, e_set, e_if, e_for, e_cC, e_c2, e_c1, e_cA, e_aN, e_aC, e_cB, e_asB, e_bNot, e_bAnd, e_bOr, e_vAnd, e_vOr, e_vNot, e_vIf, e_bYes, e_iL, e_iT, e_iLb, e_iR, e_gL1, e_gL2, e_gL3, e_gT, e_gLb1, e_gLb2, e_gLb3, e_gLb4, e_nb1, e_nb2, e_bor1, e_bor2, e_bor3, e_bor4, e_arg1, e_arg2, e_arg3, e_arg4, e_putd, e_puto, e_toD1, e_toD2, e_allD0, e_allD1, e_allD2, e_gTupl, e_gList, e_tgnm, e_tgtp, e_tg0, e_tg1, e_sq1, e_sq2, e_sq3, e_sq4, e_sq5, e_qv2, e_qv3, e_qv4, e_qv5, e_data1, e_data2, e_data3, e_okI, e_okB, e_i2, e_sub, e_mul, e_mod, e_div, e_pow, e_lt, e_le, e_gt, e_ge, e_neg, e_addI, e_addS, e_addT, e_addL1, e_addL2, e_addL3, e_addL4, e_addL5, e_addL6, e_addL7, e_addL8, e_addL9, e_eq, e_ne, e_in, e_notIn, e_inT, e_inT2, e_inL1, e_inL2, e_inL3, e_is, e_isNot, e_isN1, e_isN2, e_isN3, e_isN4, e_isN5, e_isN6, e_isN7, e_ixT, e_ixL, e_ixO, e_ixB, e_ixSc, e_lenT, e_lenL, e_lenO, e_lenB, e_lenSc, e_lenS, e_tupT, e_tupL, e_tupO, e_tupB, e_lisT, e_lisL, e_lisO, e_lisB, e_min2, e_max2, e_any, e_all, e_sum, e_sorted, e_rev, e_sl, e_oN, e_isi, e_lc, e_wipe0, e_wipe1, e_iA, e_iAb, e_gAq1, e_gAq2, e_gAq3, e_gAqb1, e_gAqb2, e_gAqb3, e_gAqb4, e_no, e_cCh, e_cChI, e_aug, e_decT, e_decF, e_cDispS, e_cDT, e_cDK, e_cDisp1, e_storeA, e_stR1, e_stR2, e_stR3, e_sd1, e_keyD1, e_keyD2, e_keyTD, e_intsD, e_intsD0, e_borT, e_borT2, e_borK, e_borK2, e_argT, e_argT2, e_argK, e_argK2, e_nbT, e_nbK, e_putT, e_putK, e_gAt1, e_gAt2, e_gAt3, e_gAt4, e_gGetDK, e_gGetDT, e_gIxD, e_gInD, e_gNotInD, e_cGet1, e_cGet2, e_dk1, e_dk2, e_dk3, e_dk4, e_dt1, e_dt2, e_del, atI_zero, e_at1, e_at2, e_at3, e_at4, e_at5, e_at6, e_at7, e_at8, e_at9, e_atm, e_V, e_retV, e_unp, e_app, e_store, e_fzE, oS, rsO_some, Rs.bind_ok, Rs.bind_no, Rs.out_ok, Out.then_nx, Out.then_rt, Out.then_ct, Out.then_bk, fin_rt, fin_nx, List.getElem?_cons_zero, List.getElem?_cons_succ, List.set_cons_succ, List.set_cons_zero, List.length_cons, List.length_nil, Nat.reduceAdd, Nat.reduceLT, Nat.reduceLeDiff, Nat.reduceEqDiff, if_true, if_false, Bool.false_eq_true, Bool.not_true, Bool.not_false, and_self, true_and, and_true, List.map_cons, List.map_nil, Option.map_some, sh_int, sh_bool, sh_none, sh_tup, sh_lst, eqv_int, reduceIte, Option.bind_some, Option.bind_none, kitB_ll, kitB_lt, kitB_tt, kitB_tl, kitB_ii, tyD_list, tyD_int, Bool.true_and, Bool.false_and, Bool.and_true, Bool.and_false, Bool.or_true, Bool.true_or, Bool.false_or, Bool.or_false, Bool.and_self, Bool.or_self, e_cAK, List.append_nil, List.nil_append, List.cons_append, e_andB, e_orB, e_andR, e_orR, tyD_tuple, eqv_bool, eqv_none, tyD_bool, tyD_str, tyD_none, kitB_bb, kitB_nb, kitB_bi, kitB_ib, kitB_nl, kitB_nt, beq_self_eq_true, d1] at hX
        subst hX
        exact ⟨_, .inl rfl, c, _, _, rfl, by rw [if_pos (by omega)]; exact hres⟩
      · rw [if_neg c1] at hres
        have d1 : decide (c < 0) = true := decide_eq_true (by omega)
        have key : candM us r g h t.length x = decide ((x : Int) = m) := by
          by_cases c2 : (x : Int) = m
          · have := cand_head wf hu hc b
            rw [show m.toNat = x by omega] at this
            rw [this, decide_eq_true c2]
          · rw [cand_least wf hu hc hl b hi (by omega), decide_eq_false c2]
        unfold candM at key
        have k2 := hd (movM h x)
        cases hcan : canM us h x with
        | false =>
          rw [hcan] at key p1
          have hne : ¬ (x : Int) = m := by simpa using key.symm
          simp only [e_nil, e_seq, e_fz, e_bk, e_ct, e_ret, e_retN, e_drop, e_set, e_if, e_for, e_cC, e_c2, e_c1, e_cA, e_aN, e_aC, e_cB, e_asB, e_bNot, e_bAnd, e_bOr, e_vAnd, e_vOr, e_vNot, e_vIf, e_bYes, e_iL, e_iT, e_iLb, e_iR, e_gL1, e_gL2, e_gL3, e_gT, e_gLb1, e_gLb2, e_gLb3, e_gLb4, e_nb1, e_nb2, e_bor1, e_bor2, e_bor3, e_bor4, e_arg1, e_arg2, e_arg3, e_arg4, e_putd, e_puto, e_toD1, e_toD2, e_allD0, e_allD1, e_allD2, e_gTupl, e_gList, e_tgnm, e_tgtp, e_tg0, e_tg1, e_sq1, e_sq2, e_sq3, e_sq4, e_sq5, e_qv2, e_qv3, e_qv4, e_qv5, e_data1, e_data2, e_data3, e_okI, e_okB, e_i2, e_sub, e_mul, e_mod, e_div, e_pow, e_lt, e_le, e_gt, e_ge, e_neg, e_addI, e_addS, e_addT, e_addL1, e_addL2, e_addL3, e_addL4, e_addL5, e_addL6, e_addL7, e_addL8, e_addL9, e_eq, e_ne, e_in, e_notIn, e_inT, e_inT2, e_inL1, e_inL2, e_inL3, e_is, e_isNot, e_isN1, e_isN2, e_isN3, e_isN4, e_isN5, e_isN6, e_isN7, e_ixT, e_ixL, e_ixO, e_ixB, e_ixSc, e_lenT, e_lenL, e_lenO, e_lenB, e_lenSc, e_lenS, e_tupT, e_tupL, e_tupO, e_tupB, e_lisT, e_lisL, e_lisO, e_lisB, e_min2, e_max2, e_any, e_all, e_sum, e_sorted, e_rev, e_sl, e_oN, e_isi, e_lc, e_wipe0, e_wipe1, e_iA, e_iAb, e_gAq1, e_gAq2, e_gAq3, e_gAqb1, e_gAqb2, e_gAqb3, e_gAqb4, e_no, e_cCh, e_cChI, e_aug, e_decT, e_decF, e_cDispS, e_cDT, e_cDK, e_cDisp1, e_storeA, e_stR1, e_stR2, e_stR3, e_sd1, e_keyD1, e_keyD2, e_keyTD, e_intsD, e_intsD0, e_borT, e_borT2, e_borK, e_borK2, e_argT, e_argT2, e_argK, e_argK2, e_nbT, e_nbK, e_putT, e_putK, e_gAt1, e_gAt2, e_gAt3, e_gAt4, e_gGetDK, e_gGetDT, e_gIxD, e_gInD, e_gNotInD, e_cGet1, e_cGet2, e_dk1, e_dk2, e_dk3, e_dk4, e_dt1, e_dt2, e_del, atI_zero, e_at1, e_at2, e_at3, e_at4, e_at5, e_at6, e_at7, e_at8, e_at9, e_atm, e_V, e_retV, e_unp, e_app, e_store, e_fzE, oS, rsO_some, Rs.bind_ok, Rs.bind_no, Rs.out_ok, Out.then_nx, Out.then_rt, Out.then_ct, Out.then_bk, fin_rt, fin_nx, List.getElem?_cons_zero, List.getElem?_cons_succ, List.set_cons_succ, List.set_cons_zero, List.length_cons, List.length_nil, Nat.reduceAdd, Nat.reduceLT, Nat.reduceLeDiff, Nat.reduceEqDiff, if_true, if_false, Bool.false_eq_true, Bool.not_true, Bool.not_false, and_self, true_and, and_true, List.map_cons, List.map_nil, Option.map_some, sh_int, sh_bool, sh_none, sh_tup, sh_lst, eqv_int, reduceIte, Option.bind_some, Option.bind_none, kitB_ll, kitB_lt, kitB_tt, kitB_tl, kitB_ii, tyD_list, tyD_int, Bool.true_and, Bool.false_and, Bool.and_true, Bool.and_false, Bool.or_true, Bool.true_or, Bool.false_or, Bool.or_false, Bool.and_self, Bool.or_self, e_cAK, List.append_nil, List.nil_append, List.cons_append, e_andB, e_orB, e_andR, e_orR, tyD_tuple, eqv_bool, eqv_none, tyD_bool, tyD_str, tyD_none, kitB_bb, kitB_nb, kitB_bi, kitB_ib, kitB_nl, kitB_nt, beq_self_eq_true, d1, p1] at hX
          subst hX
          exact ⟨_, .inl rfl, c, _, _, rfl, by rw [if_neg (by omega)]; exact hres⟩
        | true =>
          rw [hcan] at key p1
          rw [Bool.true_and] at key
          cases hdd : distM us r g (movM h x) with
          | none =>
            rw [hdd] at key k2
            have k2 : dGet (encD (tabM us r g)) (movM h x) = none := k2
            have hne : ¬ (x : Int) = m := by simpa using key.symm
            simp only [e_nil, e_seq, e_fz, e_bk, e_ct, e_ret, e_retN, e_drop, e_set, e_if, e_for, e_cC, e_c2, e_c1, e_cA, e_aN, e_aC, e_cB, e_asB, e_bNot, e_bAnd, e_bOr, e_vAnd, e_vOr, e_vNot, e_vIf, e_bYes, e_iL, e_iT, e_iLb, e_iR, e_gL1, e_gL2, e_gL3, e_gT, e_gLb1, e_gLb2, e_gLb3, e_gLb4, e_nb1, e_nb2, e_bor1, e_bor2, e_bor3, e_bor4, e_arg1, e_arg2, e_arg3, e_arg4, e_putd, e_puto, e_toD1, e_toD2, e_allD0, e_allD1, e_allD2, e_gTupl, e_gList, e_tgnm, e_tgtp, e_tg0, e_tg1, e_sq1, e_sq2, e_sq3, e_sq4, e_sq5, e_qv2, e_qv3, e_qv4, e_qv5, e_data1, e_data2, e_data3, e_okI, e_okB, e_i2, e_sub, e_mul, e_mod, e_div, e_pow, e_lt, e_le, e_gt, e_ge, e_neg, e_addI, e_addS, e_addT, e_addL1, e_addL2, e_addL3, e_addL4, e_addL5, e_addL6, e_addL7, e_addL8, e_addL9, e_eq, e_ne, e_in, e_notIn, e_inT, e_inT2, e_inL1, e_inL2, e_inL3, e_is, e_isNot, e_isN1, e_isN2, e_isN3, e_isN4, e_isN5, e_isN6, e_isN7, e_ixT, e_ixL, e_ixO, e_ixB, e_ixSc, e_lenT, e_lenL, e_lenO, e_lenB, e_lenSc, e_lenS, e_tupT, e_tupL, e_tupO, e_tupB, e_lisT, e_lisL, e_lisO, e_lisB, e_min2, e_max2, e_any, e_all, e_sum, e_sorted, e_rev, e_sl, e_oN, e_isi, e_lc, e_wipe0, e_wipe1, e_iA, e_iAb, e_gAq1, e_gAq2, e_gAq3, e_gAqb1, e_gAqb2, e_gAqb3, e_gAqb4, e_no, e_cCh, e_cChI, e_aug, e_decT, e_decF, e_cDispS, e_cDT, e_cDK, e_cDisp1, e_storeA, e_stR1, e_stR2, e_stR3, e_sd1, e_keyD1, e_keyD2, e_keyTD, e_intsD, e_intsD0, e_borT, e_borT2, e_borK, e_borK2, e_argT, e_argT2, e_argK, e_argK2, e_nbT, e_nbK, e_putT, e_putK, e_gAt1, e_gAt2, e_gAt3, e_gAt4, e_gGetDK, e_gGetDT, e_gIxD, e_gInD, e_gNotInD, e_cGet1, e_cGet2, e_dk1, e_dk2, e_dk3, e_dk4, e_dt1, e_dt2, e_del, atI_zero, e_at1, e_at2, e_at3, e_at4, e_at5, e_at6, e_at7, e_at8, e_at9, e_atm, e_V, e_retV, e_unp, e_app, e_store, e_fzE, oS, rsO_some, Rs.bind_ok, Rs.bind_no, Rs.out_ok, Out.then_nx, Out.then_rt, Out.then_ct, Out.then_bk, fin_rt, fin_nx, List.getElem?_cons_zero, List.getElem?_cons_succ, List.set_cons_succ, List.set_cons_zero, List.length_cons, List.length_nil, Nat.reduceAdd, Nat.reduceLT, Nat.reduceLeDiff, Nat.reduceEqDiff, if_true, if_false, Bool.false_eq_true, Bool.not_true, Bool.not_false, and_self, true_and, and_true, List.map_cons, List.map_nil, Option.map_some, sh_int, sh_bool, sh_none, sh_tup, sh_lst, eqv_int, reduceIte, Option.bind_some, Option.bind_none, kitB_ll, kitB_lt, kitB_tt, kitB_tl, kitB_ii, tyD_list, tyD_int, Bool.true_and, Bool.false_and, Bool.and_true, Bool.and_false, Bool.or_true, Bool.true_or, Bool.false_or, Bool.or_false, Bool.and_self, Bool.or_self, e_cAK, List.append_nil, List.nil_append, List.cons_append, e_andB, e_orB, e_andR, e_orR, tyD_tuple, eqv_bool, eqv_none, tyD_bool, tyD_str, tyD_none, kitB_bb, kitB_nb, kitB_bi, kitB_ib, kitB_nl, kitB_nt, beq_self_eq_true, d1, p1, p2, kd_tup, k2, Option.isSome_none] at hX
            subst hX
            exact ⟨_, .inl rfl, c, _, _, rfl, by rw [if_neg (by omega)]; exact hres⟩
          | some n =>
            rw [hdd] at key k2
            have k2 : dGet (encD (tabM us r g)) (movM h x) = some (.int (n : Int)) := k2
            have dd : decide ((n : Int) = ((t.length + 1 : Nat) : Int) - 1) = decide ((x : Int) = m) := by
              rw [← key]
              by_cases hn : n = t.length
              · rw [decide_eq_true (by omega), decide_eq_true (by rw [hn])]
              · rw [decide_eq_false (by omega), decide_eq_false (fun z => hn (by injection z))]
            by_cases c2 : (x : Int) = m
            · simp only [e_nil, e_seq, e_fz, e_bk, e_ct, e_ret, e_retN, e_drop, e_set, e_if, e_for, e_cC, e_c2, e_c1, e_cA, e_aN, e_aC, e_cB, e_asB, e_bNot, e_bAnd, e_bOr, e_vAnd, e_vOr, e_vNot, e_vIf, e_bYes, e_iL, e_iT, e_iLb, e_iR, e_gL1, e_gL2, e_gL3, e_gT, e_gLb1, e_gLb2, e_gLb3, e_gLb4, e_nb1, e_nb2, e_bor1, e_bor2, e_bor3, e_bor4, e_arg1, e_arg2, e_arg3, e_arg4, e_putd, e_puto, e_toD1, e_toD2, e_allD0, e_allD1, e_allD2, e_gTupl, e_gList, e_tgnm, e_tgtp, e_tg0, e_tg1, e_sq1, e_sq2, e_sq3, e_sq4, e_sq5, e_qv2, e_qv3, e_qv4, e_qv5, e_data1, e_data2, e_data3, e_okI, e_okB, e_i2, e_sub, e_mul, e_mod, e_div, e_pow, e_lt, e_le, e_gt, e_ge, e_neg, e_addI, e_addS, e_addT, e_addL1, e_addL2, e_addL3, e_addL4, e_addL5, e_addL6, e_addL7, e_addL8, e_addL9, e_eq, e_ne, e_in, e_notIn, e_inT, e_inT2, e_inL1, e_inL2, e_inL3, e_is, e_isNot, e_isN1, e_isN2, e_isN3, e_isN4, e_isN5, e_isN6, e_isN7, e_ixT, e_ixL, e_ixO, e_ixB, e_ixSc, e_lenT, e_lenL, e_lenO, e_lenB, e_lenSc, e_lenS, e_tupT, e_tupL, e_tupO, e_tupB, e_lisT, e_lisL, e_lisO, e_lisB, e_min2, e_max2, e_any, e_all, e_sum, e_sorted, e_rev, e_sl, e_oN, e_isi, e_lc, e_wipe0, e_wipe1, e_iA, e_iAb, e_gAq1, e_gAq2, e_gAq3, e_gAqb1, e_gAqb2, e_gAqb3, e_gAqb4, e_no, e_cCh, e_cChI, e_aug, e_decT, e_decF, e_cDispS, e_cDT, e_cDK, e_cDisp1, e_storeA, e_stR1, e_stR2, e_stR3, e_sd1, e_keyD1, e_keyD2, e_keyTD, e_intsD, e_intsD0, e_borT, e_borT2, e_borK, e_borK2, e_argT, e_argT2, e_argK, e_argK2, e_nbT, e_nbK, e_putT, e_putK, e_gAt1, e_gAt2, e_gAt3, e_gAt4, e_gGetDK, e_gGetDT, e_gIxD, e_gInD, e_gNotInD, e_cGet1, e_cGet2, e_dk1, e_dk2, e_dk3, e_dk4, e_dt1, e_dt2, e_del, atI_zero, e_at1, e_at2, e_at3, e_at4, e_at5, e_at6, e_at7, e_at8, e_at9, e_atm, e_V, e_retV, e_unp, e_app, e_store, e_fzE, oS, rsO_some, Rs.bind_ok, Rs.bind_no, Rs.out_ok, Out.then_nx, Out.then_rt, Out.then_ct, Out.then_bk, fin_rt, fin_nx, List.getElem?_cons_zero, List.getElem?_cons_succ, List.set_cons_succ, List.set_cons_zero, List.length_cons, List.length_nil, Nat.reduceAdd, Nat.reduceLT, Nat.reduceLeDiff, Nat.reduceEqDiff, if_true, if_false, Bool.false_eq_true, Bool.not_true, Bool.not_false, and_self, true_and, and_true, List.map_cons, List.map_nil, Option.map_some, sh_int, sh_bool, sh_none, sh_tup, sh_lst, eqv_int, reduceIte, Option.bind_some, Option.bind_none, kitB_ll, kitB_lt, kitB_tt, kitB_tl, kitB_ii, tyD_list, tyD_int, Bool.true_and, Bool.false_and, Bool.and_true, Bool.and_false, Bool.or_true, Bool.true_or, Bool.false_or, Bool.or_false, Bool.and_self, Bool.or_self, e_cAK, List.append_nil, List.nil_append, List.cons_append, e_andB, e_orB, e_andR, e_orR, tyD_tuple, eqv_bool, eqv_none, tyD_bool, tyD_str, tyD_none, kitB_bb, kitB_nb, kitB_bi, kitB_ib, kitB_nl, kitB_nt, beq_self_eq_true, d1, p1, p2, kd_tup, k2, Option.isSome_some, hhere, dd, decide_eq_true c2] at hX
              subst hX
              exact ⟨_, .inl rfl, _, _, _, rfl, by rw [if_pos (by omega)]; exact c2⟩
            · simp only [e_nil, e_seq, e_fz, e_bk, e_ct, e_ret, e_retN, e_drop, e_set, e_if, e_for, e_cC, e_c2, e_c1, e_cA, e_aN, e_aC, e_cB, e_asB, e_bNot, e_bAnd, e_bOr, e_vAnd, e_vOr, e_vNot, e_vIf, e_bYes, e_iL, e_iT, e_iLb, e_iR, e_gL1, e_gL2, e_gL3, e_gT, e_gLb1, e_gLb2, e_gLb3, e_gLb4, e_nb1, e_nb2, e_bor1, e_bor2, e_bor3, e_bor4, e_arg1, e_arg2, e_arg3, e_arg4, e_putd, e_puto, e_toD1, e_toD2, e_allD0, e_allD1, e_allD2, e_gTupl, e_gList, e_tgnm, e_tgtp, e_tg0, e_tg1, e_sq1, e_sq2, e_sq3, e_sq4, e_sq5, e_qv2, e_qv3, e_qv4, e_qv5, e_data1, e_data2, e_data3, e_okI, e_okB, e_i2, e_sub, e_mul, e_mod, e_div, e_pow, e_lt, e_le, e_gt, e_ge, e_neg, e_addI, e_addS, e_addT, e_addL1, e_addL2, e_addL3, e_addL4, e_addL5, e_addL6, e_addL7, e_addL8, e_addL9, e_eq, e_ne, e_in, e_notIn, e_inT, e_inT2, e_inL1, e_inL2, e_inL3, e_is, e_isNot, e_isN1, e_isN2, e_isN3, e_isN4, e_isN5, e_isN6, e_isN7, e_ixT, e_ixL, e_ixO, e_ixB, e_ixSc, e_lenT, e_lenL, e_lenO, e_lenB, e_lenSc, e_lenS, e_tupT, e_tupL, e_tupO, e_tupB, e_lisT, e_lisL, e_lisO, e_lisB, e_min2, e_max2, e_any, e_all, e_sum, e_sorted, e_rev, e_sl, e_oN, e_isi, e_lc, e_wipe0, e_wipe1, e_iA, e_iAb, e_gAq1, e_gAq2, e_gAq3, e_gAqb1, e_gAqb2, e_gAqb3, e_gAqb4, e_no, e_cCh, e_cChI, e_aug, e_decT, e_decF, e_cDispS, e_cDT, e_cDK, e_cDisp1, e_storeA, e_stR1, e_stR2, e_stR3, e_sd1, e_keyD1, e_keyD2, e_keyTD, e_intsD, e_intsD0, e_borT, e_borT2, e_borK, e_borK2, e_argT, e_argT2, e_argK, e_argK2, e_nbT, e_nbK, e_putT, e_putK, e_gAt1, e_gAt2, e_gAt3, e_gAt4, e_gGetDK, e_gGetDT, e_gIxD, e_gInD, e_gNotInD, e_cGet1, e_cGet2, e_dk1, e_dk2, e_dk3, e_dk4, e_dt1, e_dt2, e_del, atI_zero, e_at1, e_at2, e_at3, e_at4, e_at5, e_at6, e_at7, e_at8, e_at9, e_atm, e_V, e_retV, e_unp, e_app, e_store, e_fzE, oS, rsO_some, Rs.bind_ok, Rs.bind_no, Rs.out_ok, Out.then_nx, Out.then_rt, Out.then_ct, Out.then_bk, fin_rt, fin_nx, List.getElem?_cons_zero, List.getElem?_cons_succ, List.set_cons_succ, List.set_cons_zero, List.length_cons, List.length_nil, Nat.reduceAdd, Nat.reduceLT, Nat.reduceLeDiff, Nat.reduceEqDiff, if_true, if_false, Bool.false_eq_true, Bool.not_true, Bool.not_false, and_self, true_and, and_true, List.map_cons, List.map_nil, Option.map_some, sh_int, sh_bool, sh_none, sh_tup, sh_lst, eqv_int, reduceIte, Option.bind_some, Option.bind_none, kitB_ll, kitB_lt, kitB_tt, kitB_tl, kitB_ii, tyD_list, tyD_int, Bool.true_and, Bool.false_and, Bool.and_true, Bool.and_false, Bool.or_true, Bool.true_or, Bool.false_or, Bool.or_false, Bool.and_self, Bool.or_self, e_cAK, List.append_nil, List.nil_append, List.cons_append, e_andB, e_orB, e_andR, e_orR, tyD_tuple, eqv_bool, eqv_none, tyD_bool, tyD_str, tyD_none, kitB_bb, kitB_nb, kitB_bi, kitB_ib, kitB_nl, kitB_nt, beq_self_eq_true, d1, p1, p2, kd_tup, k2, Option.isSome_some, hhere, dd, decide_eq_false c2] at hX
              subst hX
              exact ⟨_, .inl rfl, c, _, _, rfl, by rw [if_neg (by omega)]; exact hres⟩) ⟨-1, e9, e10, rfl, by rw [if_neg (by omega)]⟩
  rw [List.length_range, if_pos hm1] at hres
  rw [hres] at e
  exact ⟨e9', e10', e⟩
theorem first_out {most : Nat} {ts : List Int} (wf : WF most us ts) (e1 e2 e3 : Option RV) (hu : us.length ≤ 8) (hw : ∀ s, (usAt us s).length ≤ 1000000) (hr8 : r ≤ 800) (hg : g.length ≤ r) : ∀ (t h pre : List Int) (k : Nat) (e7 e8 e9 e10 : Option RV), Cf us.length h → h.length ≤ r → Best us r h g t → pre.length + t.length ≤ 1000 →
    ∃ e7' e8' e9' e10' e6', loopF (.nm 7) L1__law_first ((List.range' k t.length).map natI) [some (.d (.tuple (encU us))), e1, e2, e3, some (.ot (encD (tabM us r g))), some (.ol (pre.map .int)), some (.d (tupD h)), e7, e8, e9, e10]
      = .nx [some (.d (.tuple (encU us))), e1, e2, e3, some (.ot (encD (tabM us r g))), some (.ol ((pre ++ t).map .int)), e6', e7', e8', e9', e10']
  | [], h, pre, k, e7, e8, e9, e10, _, _, _, _ => ⟨e7, e8, e9, e10, _, by rw [List.append_nil]; rfl⟩
  | m :: t, h, pre, k, e7, e8, e9, e10, hc, hl, b, hz => by
    rw [List.length_cons] at hz
    have hm0 := b.ok.1.1
    have hm1 := b.ok.1.2.1
    obtain ⟨f9, f10, hin⟩ := first_in us r g wf e1 e2 e3 (some (.ol (pre.map .int))) (some (.d (.int k))) h t m hu hw hc hl (by omega) hg b e9 e10
    obtain ⟨g7, g8, g9, g10, g6, ih⟩ := first_out wf e1 e2 e3 hu hw hr8 hg t (movM h m) (pre ++ [m]) (k + 1) (some (.d (.int k))) (some (.d (.int m))) f9 f10 (hc.mov hm0 hm1) b.ok.1.2.2.2 b.tail (by simp; omega)
    refine ⟨g7, g8, g9, g10, g6, ?_⟩
    have p2 : F__law_moved [.d (tupD h), .d (.int m)] = .ok (.d (tupD (movM h m))) := law_moved_ok h m (by omega)
    have hr := e_R1n (n := us.length) (by omega)
    rw [rng_nat] at hr
    have hz1 : pre.length ≤ 1000000 := by omega
    rw [List.length_cons, List.range'_succ, List.map_cons, loopF_cons, show pre ++ m :: t = (pre ++ [m]) ++ t by simp, ← ih]
    have ht : tgE (.nm 7) (natI k) [some (.d (.tuple (encU us))), e1, e2, e3, some (.ot (encD (tabM us r g))), some (.ol (pre.map .int)), some (.d (tupD h)), e7, e8, e9, e10] = some [some (.d (.tuple (encU us))), e1, e2, e3, some (.ot (encD (tabM us r g))), some (.ol (pre.map .int)), some (.d (tupD h)), some (.d (.int k)), e8, e9, e10] := rfl
    rw [ht]
    have hb : L1__law_first [some (.d (.tuple (encU us))), e1, e2, e3, some (.ot (encD (tabM us r g))), some (.ol (pre.map .int)), some (.d (tupD h)), some (.d (.int k)), e8, e9, e10] = .nx [some (.d (.tuple (encU us))), e1, e2, e3, some (.ot (encD (tabM us r g))), some (.ol ((pre ++ [m]).map .int)), some (.d (tupD (movM h m))), some (.d (.int k)), some (.d (.int m)), f9, f10] := by
      generalize hX : L1__law_first _ = X
      unfold L1__law_first at hX
      simp only [e_nil, e_seq, e_fz, e_bk, e_ct, e_ret, e_retN, e_drop, e_set, e_if, e_for, e_cC, e_c2, e_c1, e_cA, e_aN, e_aC, e_cB, e_asB, e_bNot, e_bAnd, e_bOr, e_vAnd, e_vOr, e_vNot, e_vIf, e_bYes, e_iL, e_iT, e_iLb, e_iR, e_gL1, e_gL2, e_gL3, e_gT, e_gLb1, e_gLb2, e_gLb3, e_gLb4, e_nb1, e_nb2, e_bor1, e_bor2, e_bor3, e_bor4, e_arg1, e_arg2, e_arg3, e_arg4, e_putd, e_puto, e_toD1, e_toD2, e_allD0, e_allD1, e_allD2, e_gTupl, e_gList, e_tgnm, e_tgtp, e_tg0, e_tg1, e_sq1, e_sq2, e_sq3, e_sq4, e_sq5, e_qv2, e_qv3, e_qv4, e_qv5, e_data1, e_data2, e_data3, e_okI, e_okB, e_i2, e_sub, e_mul, e_mod, e_div, e_pow, e_lt, e_le, e_gt, e_ge, e_neg, e_addI, e_addS, e_addT, e_addL1, e_addL2, e_addL3, e_addL4, e_addL5, e_addL6, e_addL7, e_addL8, e_addL9, e_eq, e_ne, e_in, e_notIn, e_inT, e_inT2, e_inL1, e_inL2, e_inL3, e_is, e_isNot, e_isN1, e_isN2, e_isN3, e_isN4, e_isN5, e_isN6, e_isN7, e_ixT, e_ixL, e_ixO, e_ixB, e_ixSc, e_lenT, e_lenL, e_lenO, e_lenB, e_lenSc, e_lenS, e_tupT, e_tupL, e_tupO, e_tupB, e_lisT, e_lisL, e_lisO, e_lisB, e_min2, e_max2, e_any, e_all, e_sum, e_sorted, e_rev, e_sl, e_oN, e_isi, e_lc, e_wipe0, e_wipe1, e_iA, e_iAb, e_gAq1, e_gAq2, e_gAq3, e_gAqb1, e_gAqb2, e_gAqb3, e_gAqb4, e_no, e_cCh, e_cChI, e_aug, e_decT, e_decF, e_cDispS, e_cDT, e_cDK, e_cDisp1, e_storeA, e_stR1, e_stR2, e_stR3, e_sd1, e_keyD1, e_keyD2, e_keyTD, e_intsD, e_intsD0, e_borT, e_borT2, e_borK, e_borK2, e_argT, e_argT2, e_argK, e_argK2, e_nbT, e_nbK, e_putT, e_putK, e_gAt1, e_gAt2, e_gAt3, e_gAt4, e_gGetDK, e_gGetDT, e_gIxD, e_gInD, e_gNotInD, e_cGet1, e_cGet2, e_dk1, e_dk2, e_dk3, e_dk4, e_dt1, e_dt2, e_del, atI_zero, e_at1, e_at2, e_at3, e_at4, e_at5, e_at6, e_at7, e_at8, e_at9, e_atm, e_V, e_retV, e_unp, e_app, e_store, e_fzE, oS, rsO_some, Rs.bind_ok, Rs.bind_no, Rs.out_ok, Out.then_nx, Out.then_rt, Out.then_ct, Out.then_bk, fin_rt, fin_nx, List.getElem?_cons_zero, List.getElem?_cons_succ, List.set_cons_succ, List.set_cons_zero, List.length_cons, List.length_nil, Nat.reduceAdd, Nat.reduceLT, Nat.reduceLeDiff, Nat.reduceEqDiff, if_true, if_false, Bool.false_eq_true, Bool.not_true, Bool.not_false, and_self, true_and, and_true, List.map_cons, List.map_nil, Option.map_some, sh_int, sh_bool, sh_none, sh_tup, sh_lst, eqv_int, reduceIte, Option.bind_some, Option.bind_none, kitB_ll, kitB_lt, kitB_tt, kitB_tl, kitB_ii, tyD_list, tyD_int, Bool.true_and, Bool.false_and, Bool.and_true, Bool.and_false, Bool.or_true, Bool.true_or, Bool.false_or, Bool.or_false, Bool.and_self, Bool.or_self, e_cAK, List.append_nil, List.nil_append, List.cons_append, e_andB, e_orB, e_andR, e_orR, tyD_tuple, eqv_bool, eqv_none, tyD_bool, tyD_str, tyD_none, kitB_bb, kitB_nb, kitB_bi, kitB_ib, kitB_nl, kitB_nt, beq_self_eq_true, encU_len, hr, hin, List.length_map, if_pos hz1, p2] at hX
      subst hX
      rw [List.map_append]
      rfl
    simp only [hb, lp_nx]
end
theorem first_ok {most : Nat} {ts : List Int} (us : List (List Int)) (r : Nat) (st g : List Int) (wf : WF most us ts) (hu : us.length ≤ 8) (hw : ∀ s, (usAt us s).length ≤ 1000000) (hr8 : r ≤ 800) (hcs : Cf us.length st) (hcg : Cf us.length g) (hls : st.length ≤ r) (hlg : g.length ≤ 800) :
    F__law_first [.d (.tuple (encU us)), .d (.int r), .d (tupD st), .d (tupD g)] = .ok (match planM us r st g with | some p => .ol (p.map .int) | none => .d .none) := by
  have p1 := ways_ok us r g hw hu hr8 hlg hcg
  show (sSeq _ _ [some (.d (.tuple (encU us))), some (.d (.int r)), some (.d (tupD st)), some (.d (tupD g)), none, none, none, none, none, none, none]).fin = _
  by_cases hg : g.length ≤ r
  · have w1 : waysM us r g = tabM us r g := if_pos hg
    rw [w1] at p1
    have hd : dGet (encD (tabM us r g)) st = (distM us r g st).map (fun n : Nat => PyData.int (n : Int)) := by
      rw [dGet_D]; unfold distM planM; rw [Option.map_map]; rfl
    cases e : planM us r st g with
    | none =>
      have hn := dist_none wf hu hcs hcg hg e
      unfold distM at hd
      rw [hn] at hd
      have hd : dGet (encD (tabM us r g)) st = none := hd
      simp only [e_nil, e_seq, e_fz, e_bk, e_ct, e_ret, e_retN, e_drop, e_set, e_if, e_for, e_cC, e_c2, e_c1, e_cA, e_aN, e_aC, e_cB, e_asB, e_bNot, e_bAnd, e_bOr, e_vAnd, e_vOr, e_vNot, e_vIf, e_bYes, e_iL, e_iT, e_iLb, e_iR, e_gL1, e_gL2, e_gL3, e_gT, e_gLb1, e_gLb2, e_gLb3, e_gLb4, e_nb1, e_nb2, e_bor1, e_bor2, e_bor3, e_bor4, e_arg1, e_arg2, e_arg3, e_arg4, e_putd, e_puto, e_toD1, e_toD2, e_allD0, e_allD1, e_allD2, e_gTupl, e_gList, e_tgnm, e_tgtp, e_tg0, e_tg1, e_sq1, e_sq2, e_sq3, e_sq4, e_sq5, e_qv2, e_qv3, e_qv4, e_qv5, e_data1, e_data2, e_data3, e_okI, e_okB, e_i2, e_sub, e_mul, e_mod, e_div, e_pow, e_lt, e_le, e_gt, e_ge, e_neg, e_addI, e_addS, e_addT, e_addL1, e_addL2, e_addL3, e_addL4, e_addL5, e_addL6, e_addL7, e_addL8, e_addL9, e_eq, e_ne, e_in, e_notIn, e_inT, e_inT2, e_inL1, e_inL2, e_inL3, e_is, e_isNot, e_isN1, e_isN2, e_isN3, e_isN4, e_isN5, e_isN6, e_isN7, e_ixT, e_ixL, e_ixO, e_ixB, e_ixSc, e_lenT, e_lenL, e_lenO, e_lenB, e_lenSc, e_lenS, e_tupT, e_tupL, e_tupO, e_tupB, e_lisT, e_lisL, e_lisO, e_lisB, e_min2, e_max2, e_any, e_all, e_sum, e_sorted, e_rev, e_sl, e_oN, e_isi, e_lc, e_wipe0, e_wipe1, e_iA, e_iAb, e_gAq1, e_gAq2, e_gAq3, e_gAqb1, e_gAqb2, e_gAqb3, e_gAqb4, e_no, e_cCh, e_cChI, e_aug, e_decT, e_decF, e_cDispS, e_cDT, e_cDK, e_cDisp1, e_storeA, e_stR1, e_stR2, e_stR3, e_sd1, e_keyD1, e_keyD2, e_keyTD, e_intsD, e_intsD0, e_borT, e_borT2, e_borK, e_borK2, e_argT, e_argT2, e_argK, e_argK2, e_nbT, e_nbK, e_putT, e_putK, e_gAt1, e_gAt2, e_gAt3, e_gAt4, e_gGetDK, e_gGetDT, e_gIxD, e_gInD, e_gNotInD, e_cGet1, e_cGet2, e_dk1, e_dk2, e_dk3, e_dk4, e_dt1, e_dt2, e_del, atI_zero, e_at1, e_at2, e_at3, e_at4, e_at5, e_at6, e_at7, e_at8, e_at9, e_atm, e_V, e_retV, e_unp, e_app, e_store, e_fzE, oS, rsO_some, Rs.bind_ok, Rs.bind_no, Rs.out_ok, Out.then_nx, Out.then_rt, Out.then_ct, Out.then_bk, fin_rt, fin_nx, List.getElem?_cons_zero, List.getElem?_cons_succ, List.set_cons_succ, List.set_cons_zero, List.length_cons, List.length_nil, Nat.reduceAdd, Nat.reduceLT, Nat.reduceLeDiff, Nat.reduceEqDiff, if_true, if_false, Bool.false_eq_true, Bool.not_true, Bool.not_false, and_self, true_and, and_true, List.map_cons, List.map_nil, Option.map_some, sh_int, sh_bool, sh_none, sh_tup, sh_lst, eqv_int, reduceIte, Option.bind_some, Option.bind_none, kitB_ll, kitB_lt, kitB_tt, kitB_tl, kitB_ii, tyD_list, tyD_int, Bool.true_and, Bool.false_and, Bool.and_true, Bool.and_false, Bool.or_true, Bool.true_or, Bool.false_or, Bool.or_false, Bool.and_self, Bool.or_self, e_cAK, List.append_nil, List.nil_append, List.cons_append, e_andB, e_orB, e_andR, e_orR, tyD_tuple, eqv_bool, eqv_none, tyD_bool, tyD_str, tyD_none, kitB_bb, kitB_nb, kitB_bi, kitB_ib, kitB_nl, kitB_nt, beq_self_eq_true, p1, kd_tup, hd, Option.isSome_none]
    | some p =>
      have b := planM_Best hu hcs e
      rw [dist_best wf hu hcs hls b] at hd
      have hd : dGet (encD (tabM us r g)) st = some (.int (p.length : Int)) := hd
      have hpl := plan_short hr8 (by omega) e
      obtain ⟨f7, f8, f9, f10, f6, ho⟩ := first_out us r g wf (some (.d (.int r))) (some (.d (tupD st))) (some (.d (tupD g))) hu hw hr8 hg p st [] 0 none none none none hcs hls b (by simp; omega)
      have hr := e_R1n (n := p.length) (by omega)
      rw [rng_nat, List.range_eq_range'] at hr
      simp only [List.map_nil, List.nil_append] at ho
      simp only [e_nil, e_seq, e_fz, e_bk, e_ct, e_ret, e_retN, e_drop, e_set, e_if, e_for, e_cC, e_c2, e_c1, e_cA, e_aN, e_aC, e_cB, e_asB, e_bNot, e_bAnd, e_bOr, e_vAnd, e_vOr, e_vNot, e_vIf, e_bYes, e_iL, e_iT, e_iLb, e_iR, e_gL1, e_gL2, e_gL3, e_gT, e_gLb1, e_gLb2, e_gLb3, e_gLb4, e_nb1, e_nb2, e_bor1, e_bor2, e_bor3, e_bor4, e_arg1, e_arg2, e_arg3, e_arg4, e_putd, e_puto, e_toD1, e_toD2, e_allD0, e_allD1, e_allD2, e_gTupl, e_gList, e_tgnm, e_tgtp, e_tg0, e_tg1, e_sq1, e_sq2, e_sq3, e_sq4, e_sq5, e_qv2, e_qv3, e_qv4, e_qv5, e_data1, e_data2, e_data3, e_okI, e_okB, e_i2, e_sub, e_mul, e_mod, e_div, e_pow, e_lt, e_le, e_gt, e_ge, e_neg, e_addI, e_addS, e_addT, e_addL1, e_addL2, e_addL3, e_addL4, e_addL5, e_addL6, e_addL7, e_addL8, e_addL9, e_eq, e_ne, e_in, e_notIn, e_inT, e_inT2, e_inL1, e_inL2, e_inL3, e_is, e_isNot, e_isN1, e_isN2, e_isN3, e_isN4, e_isN5, e_isN6, e_isN7, e_ixT, e_ixL, e_ixO, e_ixB, e_ixSc, e_lenT, e_lenL, e_lenO, e_lenB, e_lenSc, e_lenS, e_tupT, e_tupL, e_tupO, e_tupB, e_lisT, e_lisL, e_lisO, e_lisB, e_min2, e_max2, e_any, e_all, e_sum, e_sorted, e_rev, e_sl, e_oN, e_isi, e_lc, e_wipe0, e_wipe1, e_iA, e_iAb, e_gAq1, e_gAq2, e_gAq3, e_gAqb1, e_gAqb2, e_gAqb3, e_gAqb4, e_no, e_cCh, e_cChI, e_aug, e_decT, e_decF, e_cDispS, e_cDT, e_cDK, e_cDisp1, e_storeA, e_stR1, e_stR2, e_stR3, e_sd1, e_keyD1, e_keyD2, e_keyTD, e_intsD, e_intsD0, e_borT, e_borT2, e_borK, e_borK2, e_argT, e_argT2, e_argK, e_argK2, e_nbT, e_nbK, e_putT, e_putK, e_gAt1, e_gAt2, e_gAt3, e_gAt4, e_gGetDK, e_gGetDT, e_gIxD, e_gInD, e_gNotInD, e_cGet1, e_cGet2, e_dk1, e_dk2, e_dk3, e_dk4, e_dt1, e_dt2, e_del, atI_zero, e_at1, e_at2, e_at3, e_at4, e_at5, e_at6, e_at7, e_at8, e_at9, e_atm, e_V, e_retV, e_unp, e_app, e_store, e_fzE, oS, rsO_some, Rs.bind_ok, Rs.bind_no, Rs.out_ok, Out.then_nx, Out.then_rt, Out.then_ct, Out.then_bk, fin_rt, fin_nx, List.getElem?_cons_zero, List.getElem?_cons_succ, List.set_cons_succ, List.set_cons_zero, List.length_cons, List.length_nil, Nat.reduceAdd, Nat.reduceLT, Nat.reduceLeDiff, Nat.reduceEqDiff, if_true, if_false, Bool.false_eq_true, Bool.not_true, Bool.not_false, and_self, true_and, and_true, List.map_cons, List.map_nil, Option.map_some, sh_int, sh_bool, sh_none, sh_tup, sh_lst, eqv_int, reduceIte, Option.bind_some, Option.bind_none, kitB_ll, kitB_lt, kitB_tt, kitB_tl, kitB_ii, tyD_list, tyD_int, Bool.true_and, Bool.false_and, Bool.and_true, Bool.and_false, Bool.or_true, Bool.true_or, Bool.false_or, Bool.or_false, Bool.and_self, Bool.or_self, e_cAK, List.append_nil, List.nil_append, List.cons_append, e_andB, e_orB, e_andR, e_orR, tyD_tuple, eqv_bool, eqv_none, tyD_bool, tyD_str, tyD_none, kitB_bb, kitB_nb, kitB_bi, kitB_ib, kitB_nl, kitB_nt, beq_self_eq_true, p1, kd_tup, hd, Option.isSome_some, hr, ho]
  · have w1 : waysM us r g = [] := if_neg hg
    rw [w1] at p1
    have e : planM us r st g = none := by
      cases z : planM us r st g with
      | none => rfl
      | some p =>
        obtain ⟨s1, s2⟩ := planM_sound hu hcs z
        have := len_end hls s1
        rw [s2] at this
        omega
    rw [e]
    have hd : dGet (encD []) st = none := rfl
    simp only [e_nil, e_seq, e_fz, e_bk, e_ct, e_ret, e_retN, e_drop, e_set, e_if, e_for, e_cC, e_c2, e_c1, e_cA, e_aN, e_aC, e_cB, e_asB, e_bNot, e_bAnd, e_bOr, e_vAnd, e_vOr, e_vNot, e_vIf, e_bYes, e_iL, e_iT, e_iLb, e_iR, e_gL1, e_gL2, e_gL3, e_gT, e_gLb1, e_gLb2, e_gLb3, e_gLb4, e_nb1, e_nb2, e_bor1, e_bor2, e_bor3, e_bor4, e_arg1, e_arg2, e_arg3, e_arg4, e_putd, e_puto, e_toD1, e_toD2, e_allD0, e_allD1, e_allD2, e_gTupl, e_gList, e_tgnm, e_tgtp, e_tg0, e_tg1, e_sq1, e_sq2, e_sq3, e_sq4, e_sq5, e_qv2, e_qv3, e_qv4, e_qv5, e_data1, e_data2, e_data3, e_okI, e_okB, e_i2, e_sub, e_mul, e_mod, e_div, e_pow, e_lt, e_le, e_gt, e_ge, e_neg, e_addI, e_addS, e_addT, e_addL1, e_addL2, e_addL3, e_addL4, e_addL5, e_addL6, e_addL7, e_addL8, e_addL9, e_eq, e_ne, e_in, e_notIn, e_inT, e_inT2, e_inL1, e_inL2, e_inL3, e_is, e_isNot, e_isN1, e_isN2, e_isN3, e_isN4, e_isN5, e_isN6, e_isN7, e_ixT, e_ixL, e_ixO, e_ixB, e_ixSc, e_lenT, e_lenL, e_lenO, e_lenB, e_lenSc, e_lenS, e_tupT, e_tupL, e_tupO, e_tupB, e_lisT, e_lisL, e_lisO, e_lisB, e_min2, e_max2, e_any, e_all, e_sum, e_sorted, e_rev, e_sl, e_oN, e_isi, e_lc, e_wipe0, e_wipe1, e_iA, e_iAb, e_gAq1, e_gAq2, e_gAq3, e_gAqb1, e_gAqb2, e_gAqb3, e_gAqb4, e_no, e_cCh, e_cChI, e_aug, e_decT, e_decF, e_cDispS, e_cDT, e_cDK, e_cDisp1, e_storeA, e_stR1, e_stR2, e_stR3, e_sd1, e_keyD1, e_keyD2, e_keyTD, e_intsD, e_intsD0, e_borT, e_borT2, e_borK, e_borK2, e_argT, e_argT2, e_argK, e_argK2, e_nbT, e_nbK, e_putT, e_putK, e_gAt1, e_gAt2, e_gAt3, e_gAt4, e_gGetDK, e_gGetDT, e_gIxD, e_gInD, e_gNotInD, e_cGet1, e_cGet2, e_dk1, e_dk2, e_dk3, e_dk4, e_dt1, e_dt2, e_del, atI_zero, e_at1, e_at2, e_at3, e_at4, e_at5, e_at6, e_at7, e_at8, e_at9, e_atm, e_V, e_retV, e_unp, e_app, e_store, e_fzE, oS, rsO_some, Rs.bind_ok, Rs.bind_no, Rs.out_ok, Out.then_nx, Out.then_rt, Out.then_ct, Out.then_bk, fin_rt, fin_nx, List.getElem?_cons_zero, List.getElem?_cons_succ, List.set_cons_succ, List.set_cons_zero, List.length_cons, List.length_nil, Nat.reduceAdd, Nat.reduceLT, Nat.reduceLeDiff, Nat.reduceEqDiff, if_true, if_false, Bool.false_eq_true, Bool.not_true, Bool.not_false, and_self, true_and, and_true, List.map_cons, List.map_nil, Option.map_some, sh_int, sh_bool, sh_none, sh_tup, sh_lst, eqv_int, reduceIte, Option.bind_some, Option.bind_none, kitB_ll, kitB_lt, kitB_tt, kitB_tl, kitB_ii, tyD_list, tyD_int, Bool.true_and, Bool.false_and, Bool.and_true, Bool.and_false, Bool.or_true, Bool.true_or, Bool.false_or, Bool.or_false, Bool.and_self, Bool.or_self, e_cAK, List.append_nil, List.nil_append, List.cons_append, e_andB, e_orB, e_andR, e_orR, tyD_tuple, eqv_bool, eqv_none, tyD_bool, tyD_str, tyD_none, kitB_bb, kitB_nb, kitB_bi, kitB_ib, kitB_nl, kitB_nt, beq_self_eq_true, p1, kd_tup, hd, Option.isSome_none]
theorem cf_len : ∀ (n : Nat) {c : List Int}, Cf n c → c.length ≤ n
  | 0, c, h => by
    cases c with
    | nil => simp
    | cons x c => have := h.2 x List.mem_cons_self; omega
  | n + 1, c, h => by
    rcases cf_last h with z | ⟨d, rfl, hd⟩
    · have := cf_len n z.2; omega
    · have := cf_len n hd; simp; omega
theorem eqv_lstI (p q : List Int) : PyData.eqv (.list (p.map .int)) (.list (q.map .int)) = decide (p = q) := eqv_lst p q
theorem sh_lstI (p : List Int) : SeqAt.shaped (.list (p.map .int)) = true := sh_lst p
theorem noL_ints : ∀ p : List Int, noLs (p.map .int) = true
  | [] => by unfold List.map noLs; rfl
  | x :: p => by
    have h := noL_ints p
    rw [List.map_cons]
    unfold noLs
    rw [h]
    unfold noL
    rfl
theorem noL_tup (x : List Int) : noL (tupD x) = true := by
  unfold tupD noL
  exact noL_ints x
theorem noL_task (us : List (List Int)) (ts : List Int) : noL (encT us ts) = true := by
  have h : ∀ us : List (List Int), noLs (encU us) = true := by
    intro us
    induction us with
    | nil => unfold encU; rw [List.map_nil]; unfold noLs; rfl
    | cons x us ih =>
      unfold encU at ih ⊢
      rw [List.map_cons]
      unfold noLs
      rw [ih, Bool.and_true]
      unfold noL
      exact noL_ints x
  show noL (.tuple [.tuple (encU us), tupD ts]) = true
  unfold noL noLs noLs noLs
  rw [noL_tup]
  unfold noL
  rw [h]
  rfl
theorem law_holds (ns : List Int) (h : ns.length ≤ 63) : F_law [.sc ns] = .ok (.d (.bool true)) := by
  obtain ⟨tm, hm, hr⟩ := turns ns h 5 8 (by omega) (by omega) (by omega) (by omega) [some (.sc ns), none, none, none, none, none, none] rfl
  obtain ⟨env', e1, j1, j2, j3, j4, j5, j6, rfl⟩ := loopF_ex (tg := .nm 1) (f := L0_law) (fun i env => ∃ j1 j2 j3 j4 j5 j6, env = [some (.sc ns), j1, j2, j3, j4, j5, j6]) natI (List.range tm) [some (.sc ns), none, none, none, none, none, none] (by
    rintro i env w hx ⟨j1, j2, j3, j4, j5, j6, rfl⟩
    refine ⟨[some (.sc ns), some (.d (.int w)), j2, j3, j4, j5, j6], rfl, ?_⟩
    have mulOk : (8 : Int).natAbs < 18446744073709551616 ∨ ((w : Int)).natAbs < 18446744073709551616 := .inl (by decide)
    obtain ⟨us, ts, p2, wf⟩ := task_ok ns (8 * w) 6 (by omega) (by omega)
    obtain ⟨d1, p1, b1⟩ := draw1 ns (8 * w + 7) 7 (by omega)
    have hu6 := wf.len
    have hu : us.length ≤ 8 := by omega
    have hw := wf_use wf (by omega)
    have k0 : 8 * (w : Int) = ((8 * w : Nat) : Int) := by omega
    have k7 : ((8 * w : Nat) : Int) + 7 = ((8 * w + 7 : Nat) : Int) := by omega
    have p1 : F__law_draw [.sc ns, .d (.int ((8 * w + 7 : Nat) : Int)), .d (.list [.int 7])] = .ok (.ol [.int d1]) := p1
    have p2 : F__law_task [.sc ns, .d (.int ((8 * w : Nat) : Int)), .d (.int 6)] = .ok (.d (encT us ts)) := p2
    obtain ⟨r, hrr⟩ : ∃ r : Nat, r = 1 + d1 := ⟨_, rfl⟩
    have kr : 1 + (d1 : Int) = (r : Int) := by omega
    have cts : Cf us.length ts := ⟨wf.tgt.up, fun x hx => ⟨wf.tgt.lo x hx, wf.tgt.hi x hx⟩⟩
    have lts : ts.length ≤ 800 := by have := cf_len _ cts; omega
    have a1 := shortest_ok us ts [] ts r .none (.inl ⟨rfl, rfl⟩) hu (by omega) (by simp) (cf_nil _)
    have hwi : within [] r (planM us r [] ts) = planM us r [] ts := if_pos (Nat.zero_le _)
    rw [hwi] at a1
    have a1 : F_shortest_plan [.d (encT us ts), .d (.int (r : Int)), .d (.tuple []), .d .none] = _ := a1
    have a2 := first_ok us r [] ts wf hu hw (by omega) (cf_nil _) cts (by simp) lts
    have a2 : F__law_first [.d (.tuple (encU us)), .d (.int (r : Int)), .d (.tuple []), .d (tupD ts)] = _ := a2
    have un := fun env => tg_encT us ts 3 4 env
    have pl1 : RV.plain (.d (encT us ts)) = true := noL_task us ts
    have pl2 : RV.plain (.d (.int (r : Int))) = true := by show noL (.int (r : Int)) = true; unfold noL; rfl
    cases e : planM us r [] ts with
    | none =>
      rw [e] at a1 a2
      have a1 : F_shortest_plan [.d (encT us ts), .d (.int (r : Int)), .d (.tuple []), .d .none] = .ok (.d .none) := a1
      have a2 : F__law_first [.d (.tuple (encU us)), .d (.int (r : Int)), .d (.tuple []), .d (tupD ts)] = .ok (.d .none) := a2
      have th : RV.thaw (.d .none) = .d .none := rfl
      generalize hX : L0_law _ = X
      unfold L0_law at hX
      generalize PyData.tuple (encU us) = UU at *
      generalize encT us ts = EE at *
      generalize tupD ts = GG at *
      simp only [e_nil, e_seq, e_fz, e_bk, e_ct, e_ret, e_retN, e_drop, e_set, e_if, e_for, e_cC, e_c2, e_c1, e_cA, e_aN, e_aC, e_cB, e_asB, e_bNot, e_bAnd, e_bOr, e_vAnd, e_vOr, e_vNot, e_vIf, e_bYes, e_iL, e_iT, e_iLb, e_iR, e_gL1, e_gL2, e_gL3, e_gT, e_gLb1, e_gLb2, e_gLb3, e_gLb4, e_nb1, e_nb2, e_bor1, e_bor2, e_bor3, e_bor4, e_arg1, e_arg2, e_arg3, e_arg4, e_putd, e_puto, e_toD1, e_toD2, e_allD0, e_allD1, e_allD2, e_gTupl, e_gList, e_tgnm, e_tgtp, e_tg0, e_tg1, e_sq1, e_sq2, e_sq3, e_sq4, e_sq5, e_qv2, e_qv3, e_qv4, e_qv5, e_data1, e_data2, e_data3, e_okI, e_okB, e_i2, e_sub, e_mul, e_mod, e_div, e_pow, e_lt, e_le, e_gt, e_ge, e_neg, e_addI, e_addS, e_addT, e_addL1, e_addL2, e_addL3, e_addL4, e_addL5, e_addL6, e_addL7, e_addL8, e_addL9, e_eq, e_ne, e_in, e_notIn, e_inT, e_inT2, e_inL1, e_inL2, e_inL3, e_is, e_isNot, e_isN1, e_isN2, e_isN3, e_isN4, e_isN5, e_isN6, e_isN7, e_ixT, e_ixL, e_ixO, e_ixB, e_ixSc, e_lenT, e_lenL, e_lenO, e_lenB, e_lenSc, e_lenS, e_tupT, e_tupL, e_tupO, e_tupB, e_lisT, e_lisL, e_lisO, e_lisB, e_min2, e_max2, e_any, e_all, e_sum, e_sorted, e_rev, e_sl, e_oN, e_isi, e_lc, e_wipe0, e_wipe1, e_iA, e_iAb, e_gAq1, e_gAq2, e_gAq3, e_gAqb1, e_gAqb2, e_gAqb3, e_gAqb4, e_no, e_cCh, e_cChI, e_aug, e_decT, e_decF, e_cDispS, e_cDT, e_cDK, e_cDisp1, e_storeA, e_stR1, e_stR2, e_stR3, e_sd1, e_keyD1, e_keyD2, e_keyTD, e_intsD, e_intsD0, e_borT, e_borT2, e_borK, e_borK2, e_argT, e_argT2, e_argK, e_argK2, e_nbT, e_nbK, e_putT, e_putK, e_gAt1, e_gAt2, e_gAt3, e_gAt4, e_gGetDK, e_gGetDT, e_gIxD, e_gInD, e_gNotInD, e_cGet1, e_cGet2, e_dk1, e_dk2, e_dk3, e_dk4, e_dt1, e_dt2, e_del, atI_zero, e_at1, e_at2, e_at3, e_at4, e_at5, e_at6, e_at7, e_at8, e_at9, e_atm, e_V, e_retV, e_unp, e_app, e_store, e_fzE, oS, rsO_some, Rs.bind_ok, Rs.bind_no, Rs.out_ok, Out.then_nx, Out.then_rt, Out.then_ct, Out.then_bk, fin_rt, fin_nx, List.getElem?_cons_zero, List.getElem?_cons_succ, List.set_cons_succ, List.set_cons_zero, List.length_cons, List.length_nil, Nat.reduceAdd, Nat.reduceLT, Nat.reduceLeDiff, Nat.reduceEqDiff, if_true, if_false, Bool.false_eq_true, Bool.not_true, Bool.not_false, and_self, true_and, and_true, List.map_cons, List.map_nil, Option.map_some, sh_int, sh_bool, sh_none, sh_tup, sh_lst, eqv_int, reduceIte, Option.bind_some, Option.bind_none, kitB_ll, kitB_lt, kitB_tt, kitB_tl, kitB_ii, tyD_list, tyD_int, Bool.true_and, Bool.false_and, Bool.and_true, Bool.and_false, Bool.or_true, Bool.true_or, Bool.false_or, Bool.or_false, Bool.and_self, Bool.or_self, e_cAK, List.append_nil, List.nil_append, List.cons_append, e_andB, e_orB, e_andR, e_orR, tyD_tuple, eqv_bool, eqv_none, tyD_bool, tyD_str, tyD_none, kitB_bb, kitB_nb, kitB_bi, kitB_ib, kitB_nl, kitB_nt, beq_self_eq_true, if_pos mulOk, k0, k7, p1, p2, kr, un, List.all_cons, List.all_nil, pl1, pl2, e_thaw1, th, a1, a2] at hX
      subst hX
      exact ⟨_, .inl rfl, _, _, _, _, _, _, rfl⟩
    | some p =>
      rw [e] at a1 a2
      have a1 : F_shortest_plan [.d (encT us ts), .d (.int (r : Int)), .d (.tuple []), .d .none] = .ok (.d (.list (p.map .int))) := a1
      have a2 : F__law_first [.d (.tuple (encU us)), .d (.int (r : Int)), .d (.tuple []), .d (tupD ts)] = .ok (.ol (p.map .int)) := a2
      have th : RV.thaw (.d (.list (p.map .int))) = .ol (p.map .int) := if_pos (noL_ints p)
      have hl := plan_short (by omega) (by simp) e
      have ee := eqv_lstI p p
      have ss := sh_lstI p
      have hz : (p.map PyData.int).length ≤ 1000000 := by rw [List.length_map]; omega
      have hc : cutL (p.map PyData.int ++ [PyData.int 0]) none (some (-1)) = p.map PyData.int := by
        unfold cutL
        have h1 : HT.sIx (p.map PyData.int ++ [PyData.int 0]).length 0 none = 0 := rfl
        have h2 : HT.sIx (p.map PyData.int ++ [PyData.int 0]).length (p.map PyData.int ++ [PyData.int 0]).length (some (-1)) = p.length := by
          rw [List.length_append, List.length_map, List.length_singleton]
          unfold HT.sIx
          simp
          omega
        rw [h1, h2]
        simp
      rw [decide_eq_true rfl] at ee
      generalize hX : L0_law _ = X
      unfold L0_law at hX
      generalize PyData.tuple (encU us) = UU at *
      generalize encT us ts = EE at *
      generalize tupD ts = GG at *
      generalize p.map PyData.int = PP at *
      have sl : gSl (.bl (PP ++ [PyData.int 0])) none (some (-1)) = .ok (.ol (cutL (PP ++ [PyData.int 0]) none (some (-1)))) := rfl
      simp only [e_nil, e_seq, e_fz, e_bk, e_ct, e_ret, e_retN, e_drop, e_set, e_if, e_for, e_cC, e_c2, e_c1, e_cA, e_aN, e_aC, e_cB, e_asB, e_bNot, e_bAnd, e_bOr, e_vAnd, e_vOr, e_vNot, e_vIf, e_bYes, e_iL, e_iT, e_iLb, e_iR, e_gL1, e_gL2, e_gL3, e_gT, e_gLb1, e_gLb2, e_gLb3, e_gLb4, e_nb1, e_nb2, e_bor1, e_bor2, e_bor3, e_bor4, e_arg1, e_arg2, e_arg3, e_arg4, e_putd, e_puto, e_toD1, e_toD2, e_allD0, e_allD1, e_allD2, e_gTupl, e_gList, e_tgnm, e_tgtp, e_tg0, e_tg1, e_sq1, e_sq2, e_sq3, e_sq4, e_sq5, e_qv2, e_qv3, e_qv4, e_qv5, e_data1, e_data2, e_data3, e_okI, e_okB, e_i2, e_sub, e_mul, e_mod, e_div, e_pow, e_lt, e_le, e_gt, e_ge, e_neg, e_addI, e_addS, e_addT, e_addL1, e_addL2, e_addL3, e_addL4, e_addL5, e_addL6, e_addL7, e_addL8, e_addL9, e_eq, e_ne, e_in, e_notIn, e_inT, e_inT2, e_inL1, e_inL2, e_inL3, e_is, e_isNot, e_isN1, e_isN2, e_isN3, e_isN4, e_isN5, e_isN6, e_isN7, e_ixT, e_ixL, e_ixO, e_ixB, e_ixSc, e_lenT, e_lenL, e_lenO, e_lenB, e_lenSc, e_lenS, e_tupT, e_tupL, e_tupO, e_tupB, e_lisT, e_lisL, e_lisO, e_lisB, e_min2, e_max2, e_any, e_all, e_sum, e_sorted, e_rev, e_sl, e_oN, e_isi, e_lc, e_wipe0, e_wipe1, e_iA, e_iAb, e_gAq1, e_gAq2, e_gAq3, e_gAqb1, e_gAqb2, e_gAqb3, e_gAqb4, e_no, e_cCh, e_cChI, e_aug, e_decT, e_decF, e_cDispS, e_cDT, e_cDK, e_cDisp1, e_storeA, e_stR1, e_stR2, e_stR3, e_sd1, e_keyD1, e_keyD2, e_keyTD, e_intsD, e_intsD0, e_borT, e_borT2, e_borK, e_borK2, e_argT, e_argT2, e_argK, e_argK2, e_nbT, e_nbK, e_putT, e_putK, e_gAt1, e_gAt2, e_gAt3, e_gAt4, e_gGetDK, e_gGetDT, e_gIxD, e_gInD, e_gNotInD, e_cGet1, e_cGet2, e_dk1, e_dk2, e_dk3, e_dk4, e_dt1, e_dt2, e_del, atI_zero, e_at1, e_at2, e_at3, e_at4, e_at5, e_at6, e_at7, e_at8, e_at9, e_atm, e_V, e_retV, e_unp, e_app, e_store, e_fzE, oS, rsO_some, Rs.bind_ok, Rs.bind_no, Rs.out_ok, Out.then_nx, Out.then_rt, Out.then_ct, Out.then_bk, fin_rt, fin_nx, List.getElem?_cons_zero, List.getElem?_cons_succ, List.set_cons_succ, List.set_cons_zero, List.length_cons, List.length_nil, Nat.reduceAdd, Nat.reduceLT, Nat.reduceLeDiff, Nat.reduceEqDiff, if_true, if_false, Bool.false_eq_true, Bool.not_true, Bool.not_false, and_self, true_and, and_true, List.map_cons, List.map_nil, Option.map_some, sh_int, sh_bool, sh_none, sh_tup, sh_lst, eqv_int, reduceIte, Option.bind_some, Option.bind_none, kitB_ll, kitB_lt, kitB_tt, kitB_tl, kitB_ii, tyD_list, tyD_int, Bool.true_and, Bool.false_and, Bool.and_true, Bool.and_false, Bool.or_true, Bool.true_or, Bool.false_or, Bool.or_false, Bool.and_self, Bool.or_self, e_cAK, List.append_nil, List.nil_append, List.cons_append, e_andB, e_orB, e_andR, e_orR, tyD_tuple, eqv_bool, eqv_none, tyD_bool, tyD_str, tyD_none, kitB_bb, kitB_nb, kitB_bi, kitB_ib, kitB_nl, kitB_nt, beq_self_eq_true, if_pos mulOk, k0, k7, p1, p2, kr, un, List.all_cons, List.all_nil, pl1, pl2, e_thaw1, th, a1, a2, ee, ss, if_pos hz, sl, hc] at hX
      subst hX
      exact ⟨_, .inl rfl, _, _, _, _, _, _, rfl⟩) ⟨none, none, none, none, none, none, rfl⟩
  show (sSeq _ _ [some (.sc ns), none, none, none, none, none, none]).fin = _
  rw [e_seq, e_for, hr, Rs.out_ok, e1]
  simp only [e_nil, e_seq, e_fz, e_bk, e_ct, e_ret, e_retN, e_drop, e_set, e_if, e_for, e_cC, e_c2, e_c1, e_cA, e_aN, e_aC, e_cB, e_asB, e_bNot, e_bAnd, e_bOr, e_vAnd, e_vOr, e_vNot, e_vIf, e_bYes, e_iL, e_iT, e_iLb, e_iR, e_gL1, e_gL2, e_gL3, e_gT, e_gLb1, e_gLb2, e_gLb3, e_gLb4, e_nb1, e_nb2, e_bor1, e_bor2, e_bor3, e_bor4, e_arg1, e_arg2, e_arg3, e_arg4, e_putd, e_puto, e_toD1, e_toD2, e_allD0, e_allD1, e_allD2, e_gTupl, e_gList, e_tgnm, e_tgtp, e_tg0, e_tg1, e_sq1, e_sq2, e_sq3, e_sq4, e_sq5, e_qv2, e_qv3, e_qv4, e_qv5, e_data1, e_data2, e_data3, e_okI, e_okB, e_i2, e_sub, e_mul, e_mod, e_div, e_pow, e_lt, e_le, e_gt, e_ge, e_neg, e_addI, e_addS, e_addT, e_addL1, e_addL2, e_addL3, e_addL4, e_addL5, e_addL6, e_addL7, e_addL8, e_addL9, e_eq, e_ne, e_in, e_notIn, e_inT, e_inT2, e_inL1, e_inL2, e_inL3, e_is, e_isNot, e_isN1, e_isN2, e_isN3, e_isN4, e_isN5, e_isN6, e_isN7, e_ixT, e_ixL, e_ixO, e_ixB, e_ixSc, e_lenT, e_lenL, e_lenO, e_lenB, e_lenSc, e_lenS, e_tupT, e_tupL, e_tupO, e_tupB, e_lisT, e_lisL, e_lisO, e_lisB, e_min2, e_max2, e_any, e_all, e_sum, e_sorted, e_rev, e_sl, e_oN, e_isi, e_lc, e_wipe0, e_wipe1, e_iA, e_iAb, e_gAq1, e_gAq2, e_gAq3, e_gAqb1, e_gAqb2, e_gAqb3, e_gAqb4, e_no, e_cCh, e_cChI, e_aug, e_decT, e_decF, e_cDispS, e_cDT, e_cDK, e_cDisp1, e_storeA, e_stR1, e_stR2, e_stR3, e_sd1, e_keyD1, e_keyD2, e_keyTD, e_intsD, e_intsD0, e_borT, e_borT2, e_borK, e_borK2, e_argT, e_argT2, e_argK, e_argK2, e_nbT, e_nbK, e_putT, e_putK, e_gAt1, e_gAt2, e_gAt3, e_gAt4, e_gGetDK, e_gGetDT, e_gIxD, e_gInD, e_gNotInD, e_cGet1, e_cGet2, e_dk1, e_dk2, e_dk3, e_dk4, e_dt1, e_dt2, e_del, atI_zero, e_at1, e_at2, e_at3, e_at4, e_at5, e_at6, e_at7, e_at8, e_at9, e_atm, e_V, e_retV, e_unp, e_app, e_store, e_fzE, oS, rsO_some, Rs.bind_ok, Rs.bind_no, Rs.out_ok, Out.then_nx, Out.then_rt, Out.then_ct, Out.then_bk, fin_rt, fin_nx, List.getElem?_cons_zero, List.getElem?_cons_succ, List.set_cons_succ, List.set_cons_zero, List.length_cons, List.length_nil, Nat.reduceAdd, Nat.reduceLT, Nat.reduceLeDiff, Nat.reduceEqDiff, if_true, if_false, Bool.false_eq_true, Bool.not_true, Bool.not_false, and_self, true_and, and_true, List.map_cons, List.map_nil, Option.map_some, sh_int, sh_bool, sh_none, sh_tup, sh_lst, eqv_int, reduceIte, Option.bind_some, Option.bind_none, kitB_ll, kitB_lt, kitB_tt, kitB_tl, kitB_ii, tyD_list, tyD_int, Bool.true_and, Bool.false_and, Bool.and_true, Bool.and_false, Bool.or_true, Bool.true_or, Bool.false_or, Bool.or_false, Bool.and_self, Bool.or_self, e_cAK, List.append_nil, List.nil_append, List.cons_append, e_andB, e_orB, e_andR, e_orR, tyD_tuple, eqv_bool, eqv_none, tyD_bool, tyD_str, tyD_none, kitB_bb, kitB_nb, kitB_bi, kitB_ib, kitB_nl, kitB_nt, beq_self_eq_true]
def topS (i : Nat) : Stmt := PySem.Challenge.pw_tidyback_k11_the_first_of_the_shortest_p.main.body.getD i (.Pass ⟨0, 0, 0, 0⟩)
structure Txt (K : PySem.W.Frag) (mg : Str → Option Value) (a__law_cell a__law_draw a__law_task a_is_possible a_moved a_transitions a_shortest_plan a__law_can a__law_moved a__law_ways a__law_first a_law : Addr) : Prop where
  g__law_cell : mg "_law_cell" = some (.ref a__law_cell)
  k__law_cell : PySem.W.keepIn K (.ref a__law_cell) = true
  g__law_draw : mg "_law_draw" = some (.ref a__law_draw)
  k__law_draw : PySem.W.keepIn K (.ref a__law_draw) = true
  g__law_task : mg "_law_task" = some (.ref a__law_task)
  k__law_task : PySem.W.keepIn K (.ref a__law_task) = true
  g_is_possible : mg "is_possible" = some (.ref a_is_possible)
  k_is_possible : PySem.W.keepIn K (.ref a_is_possible) = true
  g_moved : mg "moved" = some (.ref a_moved)
  k_moved : PySem.W.keepIn K (.ref a_moved) = true
  g_transitions : mg "transitions" = some (.ref a_transitions)
  k_transitions : PySem.W.keepIn K (.ref a_transitions) = true
  g_shortest_plan : mg "shortest_plan" = some (.ref a_shortest_plan)
  k_shortest_plan : PySem.W.keepIn K (.ref a_shortest_plan) = true
  g__law_can : mg "_law_can" = some (.ref a__law_can)
  k__law_can : PySem.W.keepIn K (.ref a__law_can) = true
  g__law_moved : mg "_law_moved" = some (.ref a__law_moved)
  k__law_moved : PySem.W.keepIn K (.ref a__law_moved) = true
  g__law_ways : mg "_law_ways" = some (.ref a__law_ways)
  k__law_ways : PySem.W.keepIn K (.ref a__law_ways) = true
  g__law_first : mg "_law_first" = some (.ref a__law_first)
  k__law_first : PySem.W.keepIn K (.ref a__law_first) = true
  g_law : mg "law" = some (.ref a_law)
  k_law : PySem.W.keepIn K (.ref a_law) = true
  z_all : mg "all" = none
  z_len : mg "len" = none
  z_list : mg "list" = none
  z_min : mg "min" = none
  z_range : mg "range" = none
  z_sorted : mg "sorted" = none
  z_tuple : mg "tuple" = none
section
variable {P : Program} {w : World} {K : PySem.W.Frag} {mg : Str → Option Value} {base : Heap} {ca : Nat → Addr} {a__law_cell a__law_draw a__law_task a_is_possible a_moved a_transitions a_shortest_plan a__law_can a__law_moved a__law_ways a__law_first a_law : Addr}
abbrev s__law_cell : Stmt := topS 7
abbrev n__law_cell : List Str := ["_law_script", "_law_k"]
theorem sc__law_cell : FnScope n__law_cell ["_law_script", "_law_k"] (defScope s__law_cell) := ⟨rfl, rfl, rfl, by decide +kernel, rfl, by decide +kernel, by decide +kernel⟩
theorem ok__law_cell (T : Txt K mg a__law_cell a__law_draw a__law_task a_is_possible a_moved a_transitions a_shortest_plan a__law_can a__law_moved a__law_ways a__law_first a_law) {fd : FuncData} (F : Fun K "_law_cell" "_law_cell" s__law_cell a__law_cell fd) : FnOk P w K mg base (L2.CX P w) 1 a__law_cell fd ["_law_script", "_law_k"] (spV K ca 2 F__law_cell) :=
  fn_ok (k := 0) (N := n__law_cell) (body := B__law_cell) F sc__law_cell (fun cdv A outer s H E hr tk hp =>
    (vss_cons (vs_if (vt_cmp op_lt s_lt (vv 1) (ve_callB call_lenA c_len (by rfl) T.z_len (by decide +kernel) (va_cons (vv 0) va_nil)) (nomark _)) (vss_one (vs_ret (ve_ix ix_seq s_ix (vv 0) (vv 1) (fun _ _ => rfl)))) vss_nil)
    (vss_one (vs_ret ve_int))))
abbrev s__law_draw : Stmt := topS 8
abbrev n__law_draw : List Str := ["_law_script", "_law_k", "_law_sizes", "_law_cell_here", "_law_drawn", "_law_size", "_law_mixed", "_law_j"]
theorem sc__law_draw : FnScope n__law_draw ["_law_script", "_law_k", "_law_sizes"] (defScope s__law_draw) := ⟨rfl, rfl, rfl, by decide +kernel, rfl, by decide +kernel, by decide +kernel⟩
theorem ok__law_draw (T : Txt K mg a__law_cell a__law_draw a__law_task a_is_possible a_moved a_transitions a_shortest_plan a__law_can a__law_moved a__law_ways a__law_first a_law) {fd__law_cell : FuncData} (G__law_cell : FnOk P w K mg base (L2.CX P w) 1 a__law_cell fd__law_cell ["_law_script", "_law_k"] (spV K ca 2 F__law_cell)) (b__law_cell : Binds K fd__law_cell ["_law_script", "_law_k"] []) {fd : FuncData} (F : Fun K "_law_draw" "_law_draw" s__law_draw a__law_draw fd) : FnOk P w K mg base (L2.CX P w) 2 a__law_draw fd ["_law_script", "_law_k", "_law_sizes"] (spV K ca 3 F__law_draw) :=
  fn_ok (k := 1) (N := n__law_draw) (body := B__law_draw) F sc__law_draw (fun cdv A outer s H E hr tk hp =>
    (vss_cons (vs_set (i := 3) sc__law_draw.nd rfl (Or.inl rfl) (ve_call G__law_cell (hr.mono (by decide)) (by rfl) T.g__law_cell T.k__law_cell b__law_cell tk (va_cons (vv 0) (va_cons (vv 1) va_nil))))
    (vss_cons (vs_if (vt_cmp op_lt s_lt (vv 3) ve_int (nomark _)) (vss_one (vs_set (i := 3) sc__law_draw.nd rfl (Or.inl rfl) (ve_un un_neg s_neg (vv 3)))) vss_nil)
    (vss_cons (vs_set (i := 4) sc__law_draw.nd rfl (Or.inl rfl) (ve_lst va_nil))
    (vss_cons (vs_if (vt_cmp op_ge s_ge (vv 3) (ve_op op_pow s_pow ve_int ve_int) (nomark _)) (vss_cons (vs_set (i := 3) sc__law_draw.nd rfl (Or.inl rfl) (ve_op op_sub s_sub (vv 3) (ve_op op_pow s_pow ve_int ve_int)))
    (vss_cons (vs_for hp rfl (vi_list (vv 2)) (vg_name sc__law_draw.nd rfl (Or.inl rfl)) (vss_cons (vs_app 4 (ve_op op_mod s_mod (vv 3) (vv 5)))
    (vss_one (vs_set (i := 3) sc__law_draw.nd rfl (Or.inl rfl) (ve_op op_fdiv s_div (vv 3) (vv 5))))))
    (vss_one (vs_retv 4)))) vss_nil)
    (vss_cons (vs_set (i := 6) sc__law_draw.nd rfl (Or.inl rfl) (ve_op op_mod s_mod (ve_op op_addA s_add (ve_op op_addA s_add (vv 3) ve_int) (ve_op op_mul s_mul ve_int (vv 1))) ve_int))
    (vss_cons (vs_for hp rfl (vi_range1 (by rfl) T.z_range (va_cons (ve_callB call_lenA c_len (by rfl) T.z_len (by decide +kernel) (va_cons (vv 2) va_nil)) va_nil)) (vg_name sc__law_draw.nd rfl (Or.inl rfl)) (vss_cons (vs_set (i := 6) sc__law_draw.nd rfl (Or.inl rfl) (ve_op op_mod s_mod (ve_op op_addA s_add (ve_op op_addA s_add (ve_op op_mul s_mul (vv 6) ve_int) ve_int) (vv 7)) ve_int))
    (vss_cons (vs_set (i := 6) sc__law_draw.nd rfl (Or.inl rfl) (ve_op op_mod s_mod (ve_op op_addA s_add (ve_op op_mul s_mul (vv 6) ve_int) ve_int) ve_int))
    (vss_one (vs_app 4 (ve_op op_mod s_mod (ve_op op_fdiv s_div (vv 6) ve_int) (ve_ix ix_seq s_ix (vv 2) (vv 7) (fun _ _ => rfl))))))))
    (vss_one (vs_retv 4)))))))))
abbrev s__law_task : Stmt := topS 9
abbrev n__law_task : List Str := ["_law_script", "_law_at", "_law_most", "_law_head", "_law_uses", "_law_k", "_law_digits", "_law_row", "_law_j", "_law_targets"]
theorem sc__law_task : FnScope n__law_task ["_law_script", "_law_at", "_law_most"] (defScope s__law_task) := ⟨rfl, rfl, rfl, by decide +kernel, rfl, by decide +kernel, by decide +kernel⟩
theorem ok__law_task (T : Txt K mg a__law_cell a__law_draw a__law_task a_is_possible a_moved a_transitions a_shortest_plan a__law_can a__law_moved a__law_ways a__law_first a_law) {fd__law_draw : FuncData} (G__law_draw : FnOk P w K mg base (L2.CX P w) 2 a__law_draw fd__law_draw ["_law_script", "_law_k", "_law_sizes"] (spV K ca 3 F__law_draw)) (b__law_draw : Binds K fd__law_draw ["_law_script", "_law_k", "_law_sizes"] []) {fd : FuncData} (F : Fun K "_law_task" "_law_task" s__law_task a__law_task fd) : FnOk P w K mg base (L2.CX P w) 3 a__law_task fd ["_law_script", "_law_at", "_law_most"] (spV K ca 3 F__law_task) :=
  fn_ok (k := 2) (N := n__law_task) (body := B__law_task) F sc__law_task (fun cdv A outer s H E hr tk hp =>
    (vss_cons (vs_set (i := 3) sc__law_task.nd rfl (Or.inl rfl) (ve_call G__law_draw (hr.mono (by decide)) (by rfl) T.g__law_draw T.k__law_draw b__law_draw tk (va_cons (vv 0) (va_cons (vv 1) (va_cons (ve_lst (va_cons (vv 2) (va_cons ve_int (va_cons ve_int va_nil)))) va_nil)))))
    (vss_cons (vs_set (i := 4) sc__law_task.nd rfl (Or.inl rfl) (ve_lst va_nil))
    (vss_cons (vs_for hp rfl (vi_range1 (by rfl) T.z_range (va_cons (ve_op op_addA s_add ve_int (ve_ix ix_seq s_ix (vv 3) ve_int (fun _ _ => rfl))) va_nil)) (vg_name sc__law_task.nd rfl (Or.inl rfl)) (vss_cons (vs_set (i := 6) sc__law_task.nd rfl (Or.inl rfl) (ve_call G__law_draw (hr.mono (by decide)) (by rfl) T.g__law_draw T.k__law_draw b__law_draw tk (va_cons (vv 0) (va_cons (ve_op op_addA s_add (ve_op op_addA s_add (vv 1) ve_int) (vv 5)) (va_cons (ve_lst (va_cons ve_int (va_cons ve_int (va_cons ve_int (va_cons ve_int (va_cons ve_int (va_cons ve_int (va_cons ve_int (va_cons ve_int (va_cons ve_int va_nil)))))))))) va_nil)))))
    (vss_cons (vs_set (i := 7) sc__law_task.nd rfl (Or.inl rfl) (ve_lst va_nil))
    (vss_cons (vs_for hp rfl (vi_range1 (by rfl) T.z_range (va_cons (vv 5) va_nil)) (vg_name sc__law_task.nd rfl (Or.inl rfl)) (vss_one (vs_if (vw (vw_and (vt_cmp (op_eqD hr.units) s_eq (ve_ix ix_seq s_ix (vv 6) (ve_op op_addA s_add ve_int (vv 8)) (fun _ _ => rfl)) ve_int (nomark _)) (vw_and1 (vw (vw_or (vt_cmp op_gt s_gt (ve_ix ix_seq s_ix (vv 6) ve_int (fun _ _ => rfl)) ve_int (nomark _)) (vw_or1 (vt_cmp op_ge s_ge (ve_op op_addA s_add (vv 8) ve_int) (vv 5) (nomark _)))))))) (vss_one (vs_app 7 (vv 8))) vss_nil)))
    (vss_one (vs_app 4 (ve_callTy call_tuple_of c_tuple (by rfl) T.z_tuple (by decide +kernel) (va_cons (vv 7) va_nil))))))))
    (vss_cons (vs_set (i := 9) sc__law_task.nd rfl (Or.inl rfl) (ve_lst va_nil))
    (vss_cons (vs_for hp rfl (vi_range1 (by rfl) T.z_range (va_cons (ve_callB call_lenA c_len (by rfl) T.z_len (by decide +kernel) (va_cons (vv 4) va_nil)) va_nil)) (vg_name sc__law_task.nd rfl (Or.inl rfl)) (vss_one (vs_if (vw (vw_and (vt_cmp op_gt s_gt (ve_ix ix_seq s_ix (vv 3) ve_int (fun _ _ => rfl)) ve_int (nomark _)) (vw_and1 (vt_cmp (op_eqD hr.units) s_eq (ve_op op_mod s_mod (ve_op op_fdiv s_div (ve_ix ix_seq s_ix (vv 3) ve_int (fun _ _ => rfl)) (ve_ix ix_seq s_ix (ve_lst (va_cons ve_int (va_cons ve_int (va_cons ve_int (va_cons ve_int (va_cons ve_int (va_cons ve_int (va_cons ve_int (va_cons ve_int va_nil))))))))) (vv 5) (fun _ _ => rfl))) ve_int) ve_int (nomark _))))) (vss_one (vs_app 9 (vv 5))) vss_nil)))
    (vss_cons (vs_if (vt_cmp (op_eqD hr.units) s_eq (ve_callB call_lenA c_len (by rfl) T.z_len (by decide +kernel) (va_cons (vv 9) va_nil)) ve_int (nomark _)) (vss_one (vs_set (i := 9) sc__law_task.nd rfl (Or.inl rfl) (ve_lst (va_cons (ve_op op_sub s_sub (ve_callB call_lenA c_len (by rfl) T.z_len (by decide +kernel) (va_cons (vv 4) va_nil)) ve_int) va_nil)))) vss_nil)
    (vss_one (vs_ret (ve_tup (va_cons (ve_callTy call_tuple_of c_tuple (by rfl) T.z_tuple (by decide +kernel) (va_cons (vv 4) va_nil)) (va_cons (ve_callTy call_tuple_of c_tuple (by rfl) T.z_tuple (by decide +kernel) (va_cons (vv 9) va_nil)) va_nil))))))))))))
abbrev s_is_possible : Stmt := topS 1
abbrev n_is_possible : List Str := ["task", "configuration", "move", "step"]
theorem sc_is_possible : FnScope n_is_possible ["task", "configuration", "move"] (defScope s_is_possible) := ⟨rfl, rfl, rfl, by decide +kernel, rfl, by decide +kernel, by decide +kernel⟩
theorem ok_is_possible (T : Txt K mg a__law_cell a__law_draw a__law_task a_is_possible a_moved a_transitions a_shortest_plan a__law_can a__law_moved a__law_ways a__law_first a_law) {fd : FuncData} (F : Fun K "is_possible" "is_possible" s_is_possible a_is_possible fd) : FnOk P w K mg base (L2.CX P w) 1 a_is_possible fd ["task", "configuration", "move"] (spV K ca 3 F_is_possible) :=
  fn_ok (k := 0) (N := n_is_possible) (body := B_is_possible) F sc_is_possible (fun cdv A outer s H E hr tk hp =>
    (vss_cons (vs_for hp rfl (vi_any (ve_ix ix_seq s_ix (ve_ix ix_seq s_ix (vv 0) ve_int (fun _ _ => rfl)) (vv 2) (fun _ _ => rfl))) (vg_name sc_is_possible.nd rfl (Or.inl rfl)) (vss_one (vs_if (vt_cmp (op_notInA (hu65 hr)) s_notIn (vv 3) (vv 1) (by rfl)) (vss_one (vs_ret ve_bl)) vss_nil)))
    (vss_one (vs_ret ve_bl))))
abbrev s_moved : Stmt := topS 2
abbrev n_moved : List Str := ["configuration", "move", "step"]
theorem sc_moved : FnScope n_moved ["configuration", "move"] (defScope s_moved) := ⟨rfl, rfl, rfl, by decide +kernel, rfl, by decide +kernel, by decide +kernel⟩
theorem ok_moved (T : Txt K mg a__law_cell a__law_draw a__law_task a_is_possible a_moved a_transitions a_shortest_plan a__law_can a__law_moved a__law_ways a__law_first a_law) {fd : FuncData} (F : Fun K "moved" "moved" s_moved a_moved fd) : FnOk P w K mg base (L2.CX P w) 1 a_moved fd ["configuration", "move"] (spV K ca 2 F_moved) :=
  fn_ok (k := 0) (N := n_moved) (body := B_moved) F sc_moved (fun cdv A outer s H E hr tk hp =>
    (vss_cons (vs_if (vt_cmp (op_inA (hu65 hr)) s_in (vv 1) (vv 0) (by rfl)) (vss_one (vs_ret (ve_callTy call_tuple_of c_tuple (by rfl) T.z_tuple (by decide +kernel) (va_cons (ve_lc (own := [("step", 2)]) rfl sc_moved.nd (vj_any (vv 0)) (blkOk_by (own := [("step", 2)]) (N := n_moved) (sc := defScope s_moved) (by decide +kernel)) (by decide) (fun _ _ _ _ _ => (vg_name sc_moved.nd rfl (Or.inl rfl))) (fun _ _ _ _ _ => (vts_one (vt_cmp (op_neD hr.units) s_ne (vv 2) (vv 1) (nomark _)))) (fun _ _ _ _ _ => (vv 2))) va_nil)))) vss_nil)
    (vss_one (vs_ret (ve_callTy call_tuple_of c_tuple (by rfl) T.z_tuple (by decide +kernel) (va_cons (ve_callB cr_sortedI c_sorted (by rfl) T.z_sorted (by decide +kernel) (va_cons (ve_op op_addA s_add (ve_callTy call_list_of c_list (by rfl) T.z_list (by decide +kernel) (va_cons (vv 0) va_nil)) (ve_lst (va_cons (vv 1) va_nil))) va_nil)) va_nil))))))
abbrev s_transitions : Stmt := topS 4
abbrev n_transitions : List Str := ["task", "configuration", "registers", "found", "move", "later"]
theorem sc_transitions : FnScope n_transitions ["task", "configuration", "registers"] (defScope s_transitions) := ⟨rfl, rfl, rfl, by decide +kernel, rfl, by decide +kernel, by decide +kernel⟩
theorem ok_transitions (T : Txt K mg a__law_cell a__law_draw a__law_task a_is_possible a_moved a_transitions a_shortest_plan a__law_can a__law_moved a__law_ways a__law_first a_law) {fd_is_possible : FuncData} (G_is_possible : FnOk P w K mg base (L2.CX P w) 1 a_is_possible fd_is_possible ["task", "configuration", "move"] (spV K ca 3 F_is_possible)) (b_is_possible : Binds K fd_is_possible ["task", "configuration", "move"] []) {fd_moved : FuncData} (G_moved : FnOk P w K mg base (L2.CX P w) 1 a_moved fd_moved ["configuration", "move"] (spV K ca 2 F_moved)) (b_moved : Binds K fd_moved ["configuration", "move"] []) {fd : FuncData} (F : Fun K "transitions" "transitions" s_transitions a_transitions fd) : FnOk P w K mg base (L2.CX P w) 2 a_transitions fd ["task", "configuration", "registers"] (spV K ca 3 F_transitions) :=
  fn_ok (k := 1) (N := n_transitions) (body := B_transitions) F sc_transitions (fun cdv A outer s H E hr tk hp =>
    (vss_cons (vs_set (i := 3) sc_transitions.nd rfl (Or.inl rfl) (ve_lst va_nil))
    (vss_cons (vs_for hp rfl (vi_range1 (by rfl) T.z_range (va_cons (ve_callB call_lenA c_len (by rfl) T.z_len (by decide +kernel) (va_cons (ve_ix ix_seq s_ix (vv 0) ve_int (fun _ _ => rfl)) va_nil)) va_nil)) (vg_name sc_transitions.nd rfl (Or.inl rfl)) (vss_one (vs_if (vt_val (ve_call G_is_possible (hr.mono (by decide)) (by rfl) T.g_is_possible T.k_is_possible b_is_possible tk (va_cons (vv 0) (va_cons (vv 1) (va_cons (vv 4) va_nil))))) (vss_cons (vs_set (i := 5) sc_transitions.nd rfl (Or.inl rfl) (ve_call G_moved (hr.mono (by decide)) (by rfl) T.g_moved T.k_moved b_moved tk (va_cons (vv 1) (va_cons (vv 4) va_nil))))
    (vss_one (vs_if (vt_cmp op_le s_le (ve_callB call_lenA c_len (by rfl) T.z_len (by decide +kernel) (va_cons (vv 5) va_nil)) (vv 2) (nomark _)) (vss_one (vs_fz 5 (vs_app 3 (ve_tup (va_cons (vv 4) (va_cons (vv 5) va_nil)))))) vss_nil))) vss_nil)))
    (vss_one (vs_retv 3)))))
abbrev s_shortest_plan : Stmt := topS 5
abbrev n_shortest_plan : List Str := ["task", "registers", "start", "goal", "plans", "queue", "at", "configuration", "move", "later"]
theorem sc_shortest_plan : FnScope n_shortest_plan ["task", "registers", "start", "goal"] (defScope s_shortest_plan) := ⟨rfl, rfl, rfl, by decide +kernel, rfl, by decide +kernel, by decide +kernel⟩
theorem ok_shortest_plan (T : Txt K mg a__law_cell a__law_draw a__law_task a_is_possible a_moved a_transitions a_shortest_plan a__law_can a__law_moved a__law_ways a__law_first a_law) {fd_transitions : FuncData} (G_transitions : FnOk P w K mg base (L2.CX P w) 2 a_transitions fd_transitions ["task", "configuration", "registers"] (spV K ca 3 F_transitions)) (b_transitions : Binds K fd_transitions ["task", "configuration", "registers"] []) {fd : FuncData} {dl_shortest_plan : List (Str × V)} (F : FunD K "shortest_plan" "shortest_plan" (defArgs s_shortest_plan) (defBody s_shortest_plan) (defScope s_shortest_plan) [] dl_shortest_plan a_shortest_plan fd) : FnOk P w K mg base (L2.CX P w) 3 a_shortest_plan fd ["task", "registers", "start", "goal"] (spV K ca 4 F_shortest_plan) :=
  fnD_ok (k := 2) (N := n_shortest_plan) (body := B_shortest_plan) F sc_shortest_plan (fun cdv A outer s H E hr tk hp =>
    (vss_cons (vs_if (vt_cmp op_isN s_is (vv 3) ve_non (nomark _)) (vss_one (vs_set (i := 3) sc_shortest_plan.nd rfl (Or.inl rfl) (ve_ix ix_seq s_ix (vv 0) ve_int (fun _ _ => rfl)))) vss_nil)
    (vss_cons (vs_if (vt_cmp op_gt s_gt (ve_callB call_lenA c_len (by rfl) T.z_len (by decide +kernel) (va_cons (vv 2) va_nil)) (vv 1) (nomark _)) (vss_one (vs_ret ve_non)) vss_nil)
    (vss_cons (vs_set (i := 4) sc_shortest_plan.nd rfl (Or.inl rfl) (ve_disp1 (hu1 hr) (vv 2) (ve_lst va_nil)))
    (vss_cons (vs_set (i := 5) sc_shortest_plan.nd rfl (Or.inl rfl) (ve_lst (va_cons (vv 2) va_nil)))
    (vss_cons (vs_set (i := 6) sc_shortest_plan.nd rfl (Or.inl rfl) ve_int)
    (vss_cons (vs_while 100000 hp (vt_cmp op_lt s_lt (vv 6) (ve_callB call_lenA c_len (by rfl) T.z_len (by decide +kernel) (va_cons (vv 5) va_nil)) (nomark _)) (vss_cons (vs_set (i := 7) sc_shortest_plan.nd rfl (Or.inl rfl) (ve_ix ix_seq s_ix (vv 5) (vv 6) (fun _ _ => rfl)))
    (vss_cons (vs_augI (i := 6) sc_shortest_plan.nd rfl (Or.inl rfl) ve_int)
    (vss_cons (vs_if (vt_cmp (op_eqD hr.units) s_eq (vv 7) (vv 3) (nomark _)) (vss_one (vs_ret (ve_ix (ix_d (hu1 hr)) s_ixD (vv 4) (vv 7) (fun _ _ => rfl)))) vss_nil)
    (vss_one (vs_for hp rfl (vi_any (ve_call G_transitions (hr.mono (by decide)) (by rfl) T.g_transitions T.k_transitions b_transitions tk (va_cons (vv 0) (va_cons (vv 7) (va_cons (vv 1) va_nil))))) (vg_tup rfl (vgs_cons sc_shortest_plan.nd rfl (Or.inl rfl) (vgs_cons sc_shortest_plan.nd rfl (Or.inl rfl) vgs_nil))) (vss_one (vs_if (vt_cmp (op_notInD2 (hu1 hr)) s_notInD (vv 9) (vv 4) (by rfl)) (vss_cons (vs_storeA 4 (hu1 hr) (ve_op op_addA s_add (ve_ix (ix_d (hu1 hr)) s_ixD (vv 4) (vv 7) (fun _ _ => rfl)) (ve_lst (va_cons (vv 8) va_nil))) (vv 9))
    (vss_one (vs_app 5 (vv 9)))) vss_nil))))))))
    (vss_one (vs_ret ve_non)))))))))
abbrev s__law_can : Stmt := topS 10
abbrev n__law_can : List Str := ["_law_uses", "_law_held", "_law_step", "_law_used"]
theorem sc__law_can : FnScope n__law_can ["_law_uses", "_law_held", "_law_step"] (defScope s__law_can) := ⟨rfl, rfl, rfl, by decide +kernel, rfl, by decide +kernel, by decide +kernel⟩
theorem ok__law_can (T : Txt K mg a__law_cell a__law_draw a__law_task a_is_possible a_moved a_transitions a_shortest_plan a__law_can a__law_moved a__law_ways a__law_first a_law) {fd : FuncData} (F : Fun K "_law_can" "_law_can" s__law_can a__law_can fd) : FnOk P w K mg base (L2.CX P w) 1 a__law_can fd ["_law_uses", "_law_held", "_law_step"] (spV K ca 3 F__law_can) :=
  fn_ok (k := 0) (N := n__law_can) (body := B__law_can) F sc__law_can (fun cdv A outer s H E hr tk hp =>
    (vss_one (vs_ret (ve_callB (cr_all rfl) c_all (by rfl) T.z_all (by decide +kernel) (va_cons (ve_lc (own := [("_law_used", 3)]) rfl sc__law_can.nd (vj_tup (ve_ix ix_seq s_ix (vv 0) (vv 2) (fun _ _ => rfl))) (blkOk_by (own := [("_law_used", 3)]) (N := n__law_can) (sc := defScope s__law_can) (by decide +kernel)) (by decide) (fun _ _ _ _ _ => (vg_name sc__law_can.nd rfl (Or.inl rfl))) (fun _ _ _ _ _ => vts_nil) (fun _ _ _ _ _ => (ve_cmp (op_inA (hu65 hr)) s_in (vv 3) (vv 1) (by rfl)))) va_nil)))))
abbrev s__law_moved : Stmt := topS 11
abbrev n__law_moved : List Str := ["_law_held", "_law_step", "_law_other"]
theorem sc__law_moved : FnScope n__law_moved ["_law_held", "_law_step"] (defScope s__law_moved) := ⟨rfl, rfl, rfl, by decide +kernel, rfl, by decide +kernel, by decide +kernel⟩
theorem ok__law_moved (T : Txt K mg a__law_cell a__law_draw a__law_task a_is_possible a_moved a_transitions a_shortest_plan a__law_can a__law_moved a__law_ways a__law_first a_law) {fd : FuncData} (F : Fun K "_law_moved" "_law_moved" s__law_moved a__law_moved fd) : FnOk P w K mg base (L2.CX P w) 1 a__law_moved fd ["_law_held", "_law_step"] (spV K ca 2 F__law_moved) :=
  fn_ok (k := 0) (N := n__law_moved) (body := B__law_moved) F sc__law_moved (fun cdv A outer s H E hr tk hp =>
    (vss_cons (vs_if (vt_cmp (op_inA (hu65 hr)) s_in (vv 1) (vv 0) (by rfl)) (vss_one (vs_ret (ve_callTy call_tuple_of c_tuple (by rfl) T.z_tuple (by decide +kernel) (va_cons (ve_lc (own := [("_law_other", 2)]) rfl sc__law_moved.nd (vj_tup (vv 0)) (blkOk_by (own := [("_law_other", 2)]) (N := n__law_moved) (sc := defScope s__law_moved) (by decide +kernel)) (by decide) (fun _ _ _ _ _ => (vg_name sc__law_moved.nd rfl (Or.inl rfl))) (fun _ _ _ _ _ => (vts_one (vt_cmp (op_neD hr.units) s_ne (vv 2) (vv 1) (nomark _)))) (fun _ _ _ _ _ => (vv 2))) va_nil)))) vss_nil)
    (vss_one (vs_ret (ve_callTy call_tuple_of c_tuple (by rfl) T.z_tuple (by decide +kernel) (va_cons (ve_callB cr_sortedI c_sorted (by rfl) T.z_sorted (by decide +kernel) (va_cons (ve_op op_addA s_add (ve_callTy call_list_of c_list (by rfl) T.z_list (by decide +kernel) (va_cons (vv 0) va_nil)) (ve_lst (va_cons (vv 1) va_nil))) va_nil)) va_nil))))))
abbrev s__law_ways : Stmt := topS 12
abbrev n__law_ways : List Str := ["_law_uses", "_law_registers", "_law_start", "_law_ways_here", "_law_found", "_law_at", "_law_here", "_law_step", "_law_there"]
theorem sc__law_ways : FnScope n__law_ways ["_law_uses", "_law_registers", "_law_start"] (defScope s__law_ways) := ⟨rfl, rfl, rfl, by decide +kernel, rfl, by decide +kernel, by decide +kernel⟩
theorem ok__law_ways (T : Txt K mg a__law_cell a__law_draw a__law_task a_is_possible a_moved a_transitions a_shortest_plan a__law_can a__law_moved a__law_ways a__law_first a_law) {fd__law_can : FuncData} (G__law_can : FnOk P w K mg base (L2.CX P w) 1 a__law_can fd__law_can ["_law_uses", "_law_held", "_law_step"] (spV K ca 3 F__law_can)) (b__law_can : Binds K fd__law_can ["_law_uses", "_law_held", "_law_step"] []) {fd__law_moved : FuncData} (G__law_moved : FnOk P w K mg base (L2.CX P w) 1 a__law_moved fd__law_moved ["_law_held", "_law_step"] (spV K ca 2 F__law_moved)) (b__law_moved : Binds K fd__law_moved ["_law_held", "_law_step"] []) {fd : FuncData} (F : Fun K "_law_ways" "_law_ways" s__law_ways a__law_ways fd) : FnOk P w K mg base (L2.CX P w) 2 a__law_ways fd ["_law_uses", "_law_registers", "_law_start"] (spV K ca 3 F__law_ways) :=
  fn_ok (k := 1) (N := n__law_ways) (body := B__law_ways) F sc__law_ways (fun cdv A outer s H E hr tk hp =>
    (vss_cons (vs_set (i := 3) sc__law_ways.nd rfl (Or.inl rfl) ve_dnewT)
    (vss_cons (vs_set (i := 4) sc__law_ways.nd rfl (Or.inl rfl) (ve_lst va_nil))
    (vss_cons (vs_if (vt_cmp op_le s_le (ve_callB call_lenA c_len (by rfl) T.z_len (by decide +kernel) (va_cons (vv 2) va_nil)) (vv 1) (nomark _)) (vss_cons (vs_storeA 3 (hu1 hr) ve_int (vv 2))
    (vss_one (vs_app 4 (vv 2)))) vss_nil)
    (vss_cons (vs_set (i := 5) sc__law_ways.nd rfl (Or.inl rfl) ve_int)
    (vss_cons (vs_while 100000 hp (vt_cmp op_lt s_lt (vv 5) (ve_callB call_lenA c_len (by rfl) T.z_len (by decide +kernel) (va_cons (vv 4) va_nil)) (nomark _)) (vss_cons (vs_set (i := 6) sc__law_ways.nd rfl (Or.inl rfl) (ve_ix ix_seq s_ix (vv 4) (vv 5) (fun _ _ => rfl)))
    (vss_cons (vs_set (i := 5) sc__law_ways.nd rfl (Or.inl rfl) (ve_op op_addA s_add (vv 5) ve_int))
    (vss_one (vs_for hp rfl (vi_range1 (by rfl) T.z_range (va_cons (ve_callB call_lenA c_len (by rfl) T.z_len (by decide +kernel) (va_cons (vv 0) va_nil)) va_nil)) (vg_name sc__law_ways.nd rfl (Or.inl rfl)) (vss_one (vs_if (vt_val (ve_call G__law_can (hr.mono (by decide)) (by rfl) T.g__law_can T.k__law_can b__law_can tk (va_cons (vv 0) (va_cons (vv 6) (va_cons (vv 7) va_nil))))) (vss_cons (vs_set (i := 8) sc__law_ways.nd rfl (Or.inl rfl) (ve_call G__law_moved (hr.mono (by decide)) (by rfl) T.g__law_moved T.k__law_moved b__law_moved tk (va_cons (vv 6) (va_cons (vv 7) va_nil))))
    (vss_one (vs_if (vw (vw_and (vt_cmp op_le s_le (ve_callB call_lenA c_len (by rfl) T.z_len (by decide +kernel) (va_cons (vv 8) va_nil)) (vv 1) (nomark _)) (vw_and1 (vt_cmp (op_notInD2 (hu1 hr)) s_notInD (vv 8) (vv 3) (by rfl))))) (vss_cons (vs_storeA 3 (hu1 hr) (ve_op op_addA s_add (ve_ix (ix_d (hu1 hr)) s_ixD (vv 3) (vv 6) (fun _ _ => rfl)) ve_int) (vv 8))
    (vss_one (vs_fz 8 (vs_app 4 (vv 8))))) vss_nil))) vss_nil)))))))
    (vss_one (vs_retv 3))))))))
abbrev s__law_first : Stmt := topS 13
abbrev n__law_first : List Str := ["_law_uses", "_law_registers", "_law_start", "_law_goal", "_law_ways_here", "_law_plan", "_law_here", "_law_k", "_law_chosen", "_law_step", "_law_there"]
theorem sc__law_first : FnScope n__law_first ["_law_uses", "_law_registers", "_law_start", "_law_goal"] (defScope s__law_first) := ⟨rfl, rfl, rfl, by decide +kernel, rfl, by decide +kernel, by decide +kernel⟩
theorem ok__law_first (T : Txt K mg a__law_cell a__law_draw a__law_task a_is_possible a_moved a_transitions a_shortest_plan a__law_can a__law_moved a__law_ways a__law_first a_law) {fd__law_ways : FuncData} (G__law_ways : FnOk P w K mg base (L2.CX P w) 2 a__law_ways fd__law_ways ["_law_uses", "_law_registers", "_law_start"] (spV K ca 3 F__law_ways)) (b__law_ways : Binds K fd__law_ways ["_law_uses", "_law_registers", "_law_start"] []) {fd__law_can : FuncData} (G__law_can : FnOk P w K mg base (L2.CX P w) 1 a__law_can fd__law_can ["_law_uses", "_law_held", "_law_step"] (spV K ca 3 F__law_can)) (b__law_can : Binds K fd__law_can ["_law_uses", "_law_held", "_law_step"] []) {fd__law_moved : FuncData} (G__law_moved : FnOk P w K mg base (L2.CX P w) 1 a__law_moved fd__law_moved ["_law_held", "_law_step"] (spV K ca 2 F__law_moved)) (b__law_moved : Binds K fd__law_moved ["_law_held", "_law_step"] []) {fd : FuncData} (F : Fun K "_law_first" "_law_first" s__law_first a__law_first fd) : FnOk P w K mg base (L2.CX P w) 3 a__law_first fd ["_law_uses", "_law_registers", "_law_start", "_law_goal"] (spV K ca 4 F__law_first) :=
  fn_ok (k := 2) (N := n__law_first) (body := B__law_first) F sc__law_first (fun cdv A outer s H E hr tk hp =>
    (vss_cons (vs_set (i := 4) sc__law_first.nd rfl (Or.inl rfl) (ve_call G__law_ways (hr.mono (by decide)) (by rfl) T.g__law_ways T.k__law_ways b__law_ways tk (va_cons (vv 0) (va_cons (vv 1) (va_cons (vv 3) va_nil)))))
    (vss_cons (vs_if (vt_cmp (op_notInD2 (hu1 hr)) s_notInD (vv 2) (vv 4) (by rfl)) (vss_one (vs_ret ve_non)) vss_nil)
    (vss_cons (vs_set (i := 5) sc__law_first.nd rfl (Or.inl rfl) (ve_lst va_nil))
    (vss_cons (vs_set (i := 6) sc__law_first.nd rfl (Or.inl rfl) (vv 2))
    (vss_cons (vs_for hp rfl (vi_range1 (by rfl) T.z_range (va_cons (ve_ix (ix_d (hu1 hr)) s_ixD (vv 4) (vv 2) (fun _ _ => rfl)) va_nil)) (vg_name sc__law_first.nd rfl (Or.inl rfl)) (vss_cons (vs_set (i := 8) sc__law_first.nd rfl (Or.inl rfl) (ve_un un_neg s_neg ve_int))
    (vss_cons (vs_for hp rfl (vi_range1 (by rfl) T.z_range (va_cons (ve_callB call_lenA c_len (by rfl) T.z_len (by decide +kernel) (va_cons (vv 0) va_nil)) va_nil)) (vg_name sc__law_first.nd rfl (Or.inl rfl)) (vss_one (vs_fz 6 (vs_if (vw (vw_and (vt_cmp op_lt s_lt (vv 8) ve_int (nomark _)) (vw_and1 (vt_val (ve_call G__law_can (hr.mono (by decide)) (by rfl) T.g__law_can T.k__law_can b__law_can tk (va_cons (vv 0) (va_cons (vv 6) (va_cons (vv 9) va_nil)))))))) (vss_cons (vs_fz 6 (vs_set (i := 10) sc__law_first.nd rfl (Or.inl rfl) (ve_call G__law_moved (hr.mono (by decide)) (by rfl) T.g__law_moved T.k__law_moved b__law_moved tk (va_cons (vv 6) (va_cons (vv 9) va_nil)))))
    (vss_one (vs_if (vw (vw_and (vt_cmp (op_inD2 (hu1 hr)) s_inD (vv 10) (vv 4) (by rfl)) (vw_and1 (vt_cmp (op_eqD hr.units) s_eq (ve_ix (ix_d (hu1 hr)) s_ixD (vv 4) (vv 10) (fun _ _ => rfl)) (ve_op op_sub s_sub (ve_ix (ix_d (hu1 hr)) s_ixD (vv 4) (vv 6) (fun _ _ => rfl)) ve_int) (nomark _))))) (vss_one (vs_set (i := 8) sc__law_first.nd rfl (Or.inl rfl) (vv 9))) vss_nil))) vss_nil))))
    (vss_cons (vs_fz 8 (vs_app 5 (vv 8)))
    (vss_one (vs_fz 8 (vs_fz 6 (vs_set (i := 6) sc__law_first.nd rfl (Or.inl rfl) (ve_call G__law_moved (hr.mono (by decide)) (by rfl) T.g__law_moved T.k__law_moved b__law_moved tk (va_cons (vv 6) (va_cons (vv 8) va_nil)))))))))))
    (vss_one (vs_retv 5))))))))
abbrev s_law : Stmt := topS 14
abbrev n_law : List Str := ["_law_script", "_law_w", "_law_given", "_law_uses", "_law_targets", "_law_registers", "_law_told"]
theorem sc_law : FnScope n_law ["_law_script"] (defScope s_law) := ⟨rfl, rfl, rfl, by decide +kernel, rfl, by decide +kernel, by decide +kernel⟩
theorem ok_law (T : Txt K mg a__law_cell a__law_draw a__law_task a_is_possible a_moved a_transitions a_shortest_plan a__law_can a__law_moved a__law_ways a__law_first a_law) {fd__law_task : FuncData} (G__law_task : FnOk P w K mg base (L2.CX P w) 3 a__law_task fd__law_task ["_law_script", "_law_at", "_law_most"] (spV K ca 3 F__law_task)) (b__law_task : Binds K fd__law_task ["_law_script", "_law_at", "_law_most"] []) {fd__law_draw : FuncData} (G__law_draw : FnOk P w K mg base (L2.CX P w) 2 a__law_draw fd__law_draw ["_law_script", "_law_k", "_law_sizes"] (spV K ca 3 F__law_draw)) (b__law_draw : Binds K fd__law_draw ["_law_script", "_law_k", "_law_sizes"] []) {fd_shortest_plan : FuncData} (G_shortest_plan : FnOk P w K mg base (L2.CX P w) 3 a_shortest_plan fd_shortest_plan ["task", "registers", "start", "goal"] (spV K ca 4 F_shortest_plan)) (b_shortest_plan_0 : DBn K fd_shortest_plan ["task", "registers", "start", "goal"] [.tuple [], .none]) {fd__law_first : FuncData} (G__law_first : FnOk P w K mg base (L2.CX P w) 3 a__law_first fd__law_first ["_law_uses", "_law_registers", "_law_start", "_law_goal"] (spV K ca 4 F__law_first)) (b__law_first : Binds K fd__law_first ["_law_uses", "_law_registers", "_law_start", "_law_goal"] []) {fd : FuncData} (F : Fun K "law" "law" s_law a_law fd) : FnOk P w K mg base (L2.CX P w) 4 a_law fd ["_law_script"] (spV K ca 1 F_law) :=
  fn_ok (k := 3) (N := n_law) (body := B_law) F sc_law (fun cdv A outer s H E hr tk hp =>
    (vss_cons (vs_for hp rfl (vi_range1 (by rfl) T.z_range (va_cons (ve_callB (call_min2 rfl) c_min2 (by rfl) T.z_min (by decide +kernel) (va_cons ve_int (va_cons (ve_op op_addA s_add ve_int (ve_op op_fdiv s_div (ve_callB call_lenA c_len (by rfl) T.z_len (by decide +kernel) (va_cons (vv 0) va_nil)) ve_int)) va_nil))) va_nil)) (vg_name sc_law.nd rfl (Or.inl rfl)) (vss_cons (vs_set (i := 2) sc_law.nd rfl (Or.inl rfl) (ve_call G__law_task (hr.mono (by decide)) (by rfl) T.g__law_task T.k__law_task b__law_task tk (va_cons (vv 0) (va_cons (ve_op op_mul s_mul ve_int (vv 1)) (va_cons ve_int va_nil)))))
    (vss_cons (vs_fz 2 (vs_unp (vv 2) (vg_tup rfl (vgs_cons sc_law.nd rfl (Or.inl rfl) (vgs_cons sc_law.nd rfl (Or.inl rfl) vgs_nil)))))
    (vss_cons (vs_set (i := 5) sc_law.nd rfl (Or.inl rfl) (ve_op op_addA s_add ve_int (ve_ix ix_seq s_ix (ve_call G__law_draw (hr.mono (by decide)) (by rfl) T.g__law_draw T.k__law_draw b__law_draw tk (va_cons (vv 0) (va_cons (ve_op op_addA s_add (ve_op op_mul s_mul ve_int (vv 1)) ve_int) (va_cons (ve_lst (va_cons ve_int va_nil)) va_nil)))) ve_int (fun _ _ => rfl))))
    (vss_cons (vs_fz 5 (vs_fz 2 (vs_set (i := 6) sc_law.nd rfl (Or.inl rfl) (ve_callT G_shortest_plan (hr.mono (by decide)) (by rfl) T.g_shortest_plan T.k_shortest_plan b_shortest_plan_0 tk (va_cons (vv 2) (va_cons (vv 5) va_nil))))))
    (vss_cons (vs_fz 5 (vs_if (vt_cmp (op_neD hr.units) s_ne (vv 6) (ve_call G__law_first (hr.mono (by decide)) (by rfl) T.g__law_first T.k__law_first b__law_first tk (va_cons (vv 3) (va_cons (vv 5) (va_cons (ve_tup va_nil) (va_cons (vv 4) va_nil))))) (nomark _)) (vss_one (vs_ret ve_bl)) vss_nil))
    (vss_one (vs_if (vt_cmp op_notN s_isNot (vv 6) ve_non (nomark _)) (vss_cons (vs_app 6 ve_int)
    (vss_one (vs_fz 5 (vs_fz 2 (vs_if (vt_cmp (op_neD hr.units) s_ne (ve_callD G_shortest_plan (hr.mono (by decide)) (by rfl) T.g_shortest_plan T.k_shortest_plan b_shortest_plan_0 tk (va_cons (vv 2) (va_cons (vv 5) va_nil))) (ve_sl (vv 6) vo_none (vo_some (ve_un un_neg s_neg ve_int))) (nomark _)) (vss_one (vs_ret ve_bl)) vss_nil))))) vss_nil))))))))
    (vss_one (vs_ret ve_bl))))
end
theorem all_mk {l : PySem.W.OpenLaw} {w : World} {K : PySem.W.Frag} {h : Heap} {mg : Str → Option Value} {fa a__law_cell a__law_draw a__law_task a_is_possible a_moved a_transitions a_shortest_plan a__law_can a__law_moved a__law_ways a__law_first a_law : Addr} (X : K.In h) (G : h.Ns mainGlobals mg) (hfa : mg "law" = some (.ref fa))
    {od__law_cell an__law_cell od__law_draw an__law_draw od__law_task an__law_task od_is_possible an_is_possible od_moved an_moved od_transitions an_transitions od_shortest_plan an_shortest_plan od__law_can an__law_can od__law_moved an__law_moved od__law_ways an__law_ways od__law_first an__law_first od_law an_law : Option Addr} {sl__law_cell sl__law_draw sl__law_task sl_is_possible sl_moved sl_transitions sl_shortest_plan sl__law_can sl__law_moved sl__law_ways sl__law_first sl_law : Array (Option Value)} {oc__law_cell kV__law_cell dc__law_cell pm__law_cell cd__law_cell ct__law_cell oc__law_draw kV__law_draw dc__law_draw pm__law_draw cd__law_draw ct__law_draw oc__law_task kV__law_task dc__law_task pm__law_task cd__law_task ct__law_task oc_is_possible kV_is_possible dc_is_possible pm_is_possible cd_is_possible ct_is_possible oc_moved kV_moved dc_moved pm_moved cd_moved ct_moved oc_transitions kV_transitions dc_transitions pm_transitions cd_transitions ct_transitions oc_shortest_plan dc_shortest_plan pm_shortest_plan cd_shortest_plan ct_shortest_plan oc__law_can kV__law_can dc__law_can pm__law_can cd__law_can ct__law_can oc__law_moved kV__law_moved dc__law_moved pm__law_moved cd__law_moved ct__law_moved oc__law_ways kV__law_ways dc__law_ways pm__law_ways cd__law_ways ct__law_ways oc__law_first kV__law_first dc__law_first pm__law_first cd__law_first ct__law_first oc_law kV_law dc_law pm_law cd_law ct_law : Value}
    (p__law_cell : PySem.W.nsIn K mainGlobals "_law_cell" = some (some (.ref a__law_cell))) (l__law_cell : K.lookup a__law_cell = some ⟨oc__law_cell, od__law_cell, .func (PySem.W.fnOf "_law_cell" "_law_cell" (defArgs s__law_cell) (defBody s__law_cell) (defScope s__law_cell) .none kV__law_cell dc__law_cell pm__law_cell an__law_cell cd__law_cell ct__law_cell), sl__law_cell⟩) (c__law_cell : PySem.W.codeIn K cd__law_cell "_law_cell" = true) (k__law_cell : PySem.W.keepIn K (.ref a__law_cell) = true)
    (p__law_draw : PySem.W.nsIn K mainGlobals "_law_draw" = some (some (.ref a__law_draw))) (l__law_draw : K.lookup a__law_draw = some ⟨oc__law_draw, od__law_draw, .func (PySem.W.fnOf "_law_draw" "_law_draw" (defArgs s__law_draw) (defBody s__law_draw) (defScope s__law_draw) .none kV__law_draw dc__law_draw pm__law_draw an__law_draw cd__law_draw ct__law_draw), sl__law_draw⟩) (c__law_draw : PySem.W.codeIn K cd__law_draw "_law_draw" = true) (k__law_draw : PySem.W.keepIn K (.ref a__law_draw) = true)
    (p__law_task : PySem.W.nsIn K mainGlobals "_law_task" = some (some (.ref a__law_task))) (l__law_task : K.lookup a__law_task = some ⟨oc__law_task, od__law_task, .func (PySem.W.fnOf "_law_task" "_law_task" (defArgs s__law_task) (defBody s__law_task) (defScope s__law_task) .none kV__law_task dc__law_task pm__law_task an__law_task cd__law_task ct__law_task), sl__law_task⟩) (c__law_task : PySem.W.codeIn K cd__law_task "_law_task" = true) (k__law_task : PySem.W.keepIn K (.ref a__law_task) = true)
    (p_is_possible : PySem.W.nsIn K mainGlobals "is_possible" = some (some (.ref a_is_possible))) (l_is_possible : K.lookup a_is_possible = some ⟨oc_is_possible, od_is_possible, .func (PySem.W.fnOf "is_possible" "is_possible" (defArgs s_is_possible) (defBody s_is_possible) (defScope s_is_possible) .none kV_is_possible dc_is_possible pm_is_possible an_is_possible cd_is_possible ct_is_possible), sl_is_possible⟩) (c_is_possible : PySem.W.codeIn K cd_is_possible "is_possible" = true) (k_is_possible : PySem.W.keepIn K (.ref a_is_possible) = true)
    (p_moved : PySem.W.nsIn K mainGlobals "moved" = some (some (.ref a_moved))) (l_moved : K.lookup a_moved = some ⟨oc_moved, od_moved, .func (PySem.W.fnOf "moved" "moved" (defArgs s_moved) (defBody s_moved) (defScope s_moved) .none kV_moved dc_moved pm_moved an_moved cd_moved ct_moved), sl_moved⟩) (c_moved : PySem.W.codeIn K cd_moved "moved" = true) (k_moved : PySem.W.keepIn K (.ref a_moved) = true)
    (p_transitions : PySem.W.nsIn K mainGlobals "transitions" = some (some (.ref a_transitions))) (l_transitions : K.lookup a_transitions = some ⟨oc_transitions, od_transitions, .func (PySem.W.fnOf "transitions" "transitions" (defArgs s_transitions) (defBody s_transitions) (defScope s_transitions) .none kV_transitions dc_transitions pm_transitions an_transitions cd_transitions ct_transitions), sl_transitions⟩) (c_transitions : PySem.W.codeIn K cd_transitions "transitions" = true) (k_transitions : PySem.W.keepIn K (.ref a_transitions) = true)
    {D_shortest_plan : Addr}
    (p_shortest_plan : PySem.W.nsIn K mainGlobals "shortest_plan" = some (some (.ref a_shortest_plan))) (l_shortest_plan : K.lookup a_shortest_plan = some ⟨oc_shortest_plan, od_shortest_plan, .func (PySem.W.fnOf "shortest_plan" "shortest_plan" (defArgs s_shortest_plan) (defBody s_shortest_plan) (defScope s_shortest_plan) .none (.ref D_shortest_plan) dc_shortest_plan pm_shortest_plan an_shortest_plan cd_shortest_plan ct_shortest_plan), sl_shortest_plan⟩) (c_shortest_plan : PySem.W.codeIn K cd_shortest_plan "shortest_plan" = true) (k_shortest_plan : PySem.W.keepIn K (.ref a_shortest_plan) = true)
    {T_shortest_plan_start : Addr} {odT_shortest_plan_start : Option Addr} {nT_shortest_plan_start : Nat} {slT_shortest_plan_start : Array (Option Value)} (d_shortest_plan_start : PySem.W.nsIn K D_shortest_plan "start" = some (some (.ref T_shortest_plan_start))) (e_shortest_plan_start : K.lookup T_shortest_plan_start = some ⟨.type "tuple", odT_shortest_plan_start, .seq #[] nT_shortest_plan_start, slT_shortest_plan_start⟩)
    (d_shortest_plan_goal : PySem.W.nsIn K D_shortest_plan "goal" = some (some (.none)))
    (p__law_can : PySem.W.nsIn K mainGlobals "_law_can" = some (some (.ref a__law_can))) (l__law_can : K.lookup a__law_can = some ⟨oc__law_can, od__law_can, .func (PySem.W.fnOf "_law_can" "_law_can" (defArgs s__law_can) (defBody s__law_can) (defScope s__law_can) .none kV__law_can dc__law_can pm__law_can an__law_can cd__law_can ct__law_can), sl__law_can⟩) (c__law_can : PySem.W.codeIn K cd__law_can "_law_can" = true) (k__law_can : PySem.W.keepIn K (.ref a__law_can) = true)
    (p__law_moved : PySem.W.nsIn K mainGlobals "_law_moved" = some (some (.ref a__law_moved))) (l__law_moved : K.lookup a__law_moved = some ⟨oc__law_moved, od__law_moved, .func (PySem.W.fnOf "_law_moved" "_law_moved" (defArgs s__law_moved) (defBody s__law_moved) (defScope s__law_moved) .none kV__law_moved dc__law_moved pm__law_moved an__law_moved cd__law_moved ct__law_moved), sl__law_moved⟩) (c__law_moved : PySem.W.codeIn K cd__law_moved "_law_moved" = true) (k__law_moved : PySem.W.keepIn K (.ref a__law_moved) = true)
    (p__law_ways : PySem.W.nsIn K mainGlobals "_law_ways" = some (some (.ref a__law_ways))) (l__law_ways : K.lookup a__law_ways = some ⟨oc__law_ways, od__law_ways, .func (PySem.W.fnOf "_law_ways" "_law_ways" (defArgs s__law_ways) (defBody s__law_ways) (defScope s__law_ways) .none kV__law_ways dc__law_ways pm__law_ways an__law_ways cd__law_ways ct__law_ways), sl__law_ways⟩) (c__law_ways : PySem.W.codeIn K cd__law_ways "_law_ways" = true) (k__law_ways : PySem.W.keepIn K (.ref a__law_ways) = true)
    (p__law_first : PySem.W.nsIn K mainGlobals "_law_first" = some (some (.ref a__law_first))) (l__law_first : K.lookup a__law_first = some ⟨oc__law_first, od__law_first, .func (PySem.W.fnOf "_law_first" "_law_first" (defArgs s__law_first) (defBody s__law_first) (defScope s__law_first) .none kV__law_first dc__law_first pm__law_first an__law_first cd__law_first ct__law_first), sl__law_first⟩) (c__law_first : PySem.W.codeIn K cd__law_first "_law_first" = true) (k__law_first : PySem.W.keepIn K (.ref a__law_first) = true)
    (p_law : PySem.W.nsIn K mainGlobals "law" = some (some (.ref a_law))) (l_law : K.lookup a_law = some ⟨oc_law, od_law, .func (PySem.W.fnOf "law" "law" (defArgs s_law) (defBody s_law) (defScope s_law) .none kV_law dc_law pm_law an_law cd_law ct_law), sl_law⟩) (c_law : PySem.W.codeIn K cd_law "law" = true) (k_law : PySem.W.keepIn K (.ref a_law) = true)
    (z_all : PySem.W.nsIn K mainGlobals "all" = some none)
    (z_len : PySem.W.nsIn K mainGlobals "len" = some none)
    (z_list : PySem.W.nsIn K mainGlobals "list" = some none)
    (z_min : PySem.W.nsIn K mainGlobals "min" = some none)
    (z_range : PySem.W.nsIn K mainGlobals "range" = some none)
    (z_sorted : PySem.W.nsIn K mainGlobals "sorted" = some none)
    (z_tuple : PySem.W.nsIn K mainGlobals "tuple" = some none) :
    ∃ fd : FuncData, (∀ (s : Shared) (v : Value), BindsTo s fd ⟨[v], []⟩ [("_law_script", v)]) ∧ ∀ base : Heap, K.In base → base.Ns mainGlobals mg → FnOk l.prog w K mg base (L2.CX l.prog w) 4 fa fd ["_law_script"] (spTrue K) := by
  have e := hfa.symm.trans (PySem.W.mg_of X G p_law)
  cases e
  have T : Txt K mg a__law_cell a__law_draw a__law_task a_is_possible a_moved a_transitions a_shortest_plan a__law_can a__law_moved a__law_ways a__law_first fa := ⟨PySem.W.mg_of X G p__law_cell, k__law_cell, PySem.W.mg_of X G p__law_draw, k__law_draw, PySem.W.mg_of X G p__law_task, k__law_task, PySem.W.mg_of X G p_is_possible, k_is_possible, PySem.W.mg_of X G p_moved, k_moved, PySem.W.mg_of X G p_transitions, k_transitions, PySem.W.mg_of X G p_shortest_plan, k_shortest_plan, PySem.W.mg_of X G p__law_can, k__law_can, PySem.W.mg_of X G p__law_moved, k__law_moved, PySem.W.mg_of X G p__law_ways, k__law_ways, PySem.W.mg_of X G p__law_first, k__law_first, PySem.W.mg_of X G p_law, k_law, PySem.W.mg_none_of X G z_all, PySem.W.mg_none_of X G z_len, PySem.W.mg_none_of X G z_list, PySem.W.mg_none_of X G z_min, PySem.W.mg_none_of X G z_range, PySem.W.mg_none_of X G z_sorted, PySem.W.mg_none_of X G z_tuple⟩
  have f__law_cell := fun_mk (st := s__law_cell) l__law_cell c__law_cell k__law_cell
  have b__law_cell := f__law_cell.binds (ps := ["_law_script", "_law_k"]) fun _ _ _ _ _ _ us hl => match us, hl with | [_, _], _ => rfl
  have f__law_draw := fun_mk (st := s__law_draw) l__law_draw c__law_draw k__law_draw
  have b__law_draw := f__law_draw.binds (ps := ["_law_script", "_law_k", "_law_sizes"]) fun _ _ _ _ _ _ us hl => match us, hl with | [_, _, _], _ => rfl
  have f__law_task := fun_mk (st := s__law_task) l__law_task c__law_task k__law_task
  have b__law_task := f__law_task.binds (ps := ["_law_script", "_law_at", "_law_most"]) fun _ _ _ _ _ _ us hl => match us, hl with | [_, _, _], _ => rfl
  have f_is_possible := fun_mk (st := s_is_possible) l_is_possible c_is_possible k_is_possible
  have b_is_possible := f_is_possible.binds (ps := ["task", "configuration", "move"]) fun _ _ _ _ _ _ us hl => match us, hl with | [_, _, _], _ => rfl
  have f_moved := fun_mk (st := s_moved) l_moved c_moved k_moved
  have b_moved := f_moved.binds (ps := ["configuration", "move"]) fun _ _ _ _ _ _ us hl => match us, hl with | [_, _], _ => rfl
  have f_transitions := fun_mk (st := s_transitions) l_transitions c_transitions k_transitions
  have b_transitions := f_transitions.binds (ps := ["task", "configuration", "registers"]) fun _ _ _ _ _ _ us hl => match us, hl with | [_, _, _], _ => rfl
  have f_shortest_plan : FunD K "shortest_plan" "shortest_plan" (defArgs s_shortest_plan) (defBody s_shortest_plan) (defScope s_shortest_plan) [] ([("start", .ref T_shortest_plan_start), ("goal", .non)] : List (Str × V)) a_shortest_plan _ := fund_mk l_shortest_plan c_shortest_plan k_shortest_plan (kd_cons d_shortest_plan_start rfl (kd_cons d_shortest_plan_goal rfl kd_nil))
  have b_shortest_plan_0 : DBn K _ ["task", "registers", "start", "goal"] [.tuple [], .none] := ⟨_, f_shortest_plan.binds0 2 (by simp) rfl (fun _ _ _ _ _ _ us ks h1 h2 => match us, ks, h1, h2 with | [_, _], [_, _], _, _ => ⟨_, _, _, _, _, _, rfl, rfl, ⟨_, _, _, _, _, _, rfl, rfl, rfl⟩⟩), (still_cons (still_tup0 e_shortest_plan_start) (still_cons (fun _ => .non) still_nil))⟩
  have f__law_can := fun_mk (st := s__law_can) l__law_can c__law_can k__law_can
  have b__law_can := f__law_can.binds (ps := ["_law_uses", "_law_held", "_law_step"]) fun _ _ _ _ _ _ us hl => match us, hl with | [_, _, _], _ => rfl
  have f__law_moved := fun_mk (st := s__law_moved) l__law_moved c__law_moved k__law_moved
  have b__law_moved := f__law_moved.binds (ps := ["_law_held", "_law_step"]) fun _ _ _ _ _ _ us hl => match us, hl with | [_, _], _ => rfl
  have f__law_ways := fun_mk (st := s__law_ways) l__law_ways c__law_ways k__law_ways
  have b__law_ways := f__law_ways.binds (ps := ["_law_uses", "_law_registers", "_law_start"]) fun _ _ _ _ _ _ us hl => match us, hl with | [_, _, _], _ => rfl
  have f__law_first := fun_mk (st := s__law_first) l__law_first c__law_first k__law_first
  have b__law_first := f__law_first.binds (ps := ["_law_uses", "_law_registers", "_law_start", "_law_goal"]) fun _ _ _ _ _ _ us hl => match us, hl with | [_, _, _, _], _ => rfl
  have f_law := fun_mk (st := s_law) l_law c_law k_law
  refine ⟨PySem.W.fnOf "law" "law" (defArgs s_law) (defBody s_law) (defScope s_law) .none kV_law dc_law pm_law an_law cd_law ct_law, fun s v => .of_eq rfl, fun base _ _ => ?_⟩
  have G__law_cell := ok__law_cell (P := l.prog) (w := w) (base := base) (ca := (fun _ => 0)) T  f__law_cell
  have G__law_draw := ok__law_draw (P := l.prog) (w := w) (base := base) (ca := (fun _ => 0)) T G__law_cell b__law_cell f__law_draw
  have G__law_task := ok__law_task (P := l.prog) (w := w) (base := base) (ca := (fun _ => 0)) T G__law_draw b__law_draw f__law_task
  have G_is_possible := ok_is_possible (P := l.prog) (w := w) (base := base) (ca := (fun _ => 0)) T  f_is_possible
  have G_moved := ok_moved (P := l.prog) (w := w) (base := base) (ca := (fun _ => 0)) T  f_moved
  have G_transitions := ok_transitions (P := l.prog) (w := w) (base := base) (ca := (fun _ => 0)) T G_is_possible b_is_possible G_moved b_moved f_transitions
  have G_shortest_plan := ok_shortest_plan (P := l.prog) (w := w) (base := base) (ca := (fun _ => 0)) T G_transitions b_transitions f_shortest_plan
  have G__law_can := ok__law_can (P := l.prog) (w := w) (base := base) (ca := (fun _ => 0)) T  f__law_can
  have G__law_moved := ok__law_moved (P := l.prog) (w := w) (base := base) (ca := (fun _ => 0)) T  f__law_moved
  have G__law_ways := ok__law_ways (P := l.prog) (w := w) (base := base) (ca := (fun _ => 0)) T G__law_can b__law_can G__law_moved b__law_moved f__law_ways
  have G__law_first := ok__law_first (P := l.prog) (w := w) (base := base) (ca := (fun _ => 0)) T G__law_ways b__law_ways G__law_can b__law_can G__law_moved b__law_moved f__law_first
  have G_law := ok_law (P := l.prog) (w := w) (base := base) (ca := (fun _ => 0)) T G__law_task b__law_task G__law_draw b__law_draw G_shortest_plan b_shortest_plan_0 G__law_first b__law_first f_law
  exact G_law.imp fun vs H Q E h => law_true law_holds vs H Q E h
end My
open PySem PySem.W PyProof.Rows
set_option maxHeartbeats 0 in
theorem PySem.Challenge.cw_tidyback_k11_the_first_of_the_shortest_p_holds : PySem.Challenge.rw_tidyback_k11_the_first_of_the_shortest_p.Holds := by
  w_on; o_law; k_head; (case hw => w_witness2)
  k_fill
  refine L2.walk_of (l := PySem.Challenge.rw_tidyback_k11_the_first_of_the_shortest_p) (n := 63) (k := 4) (x := "_law_script") (CX := fun w => L2.CX PySem.Challenge.rw_tidyback_k11_the_first_of_the_shortest_p.prog w) (sp := fun w => VL.spTrue _) rfl (by decide) rfl ⟨rfl, by decide, by decide⟩ (fun w h Y => PySem.W.kIn_of Y) ?F (fun _ _ a ns hl _ hS => ⟨a, ns, rfl, hS, hl, fun _ => rfl⟩) (fun _ _ _ _ _ h => by
    obtain ⟨_, _, _, _, _, _, _, _, _, _, _, _, z⟩ := h
    exact z)
  case F =>
    intro w mg fa h KX G hmg
    refine' My.all_mk KX G hmg ?p__law_cell ?l__law_cell ?c__law_cell ?k__law_cell ?p__law_draw ?l__law_draw ?c__law_draw ?k__law_draw ?p__law_task ?l__law_task ?c__law_task ?k__law_task ?p_is_possible ?l_is_possible ?c_is_possible ?k_is_possible ?p_moved ?l_moved ?c_moved ?k_moved ?p_transitions ?l_transitions ?c_transitions ?k_transitions ?p_shortest_plan ?l_shortest_plan ?c_shortest_plan ?k_shortest_plan ?d_shortest_plan_start ?e_shortest_plan_start ?d_shortest_plan_goal ?p__law_can ?l__law_can ?c__law_can ?k__law_can ?p__law_moved ?l__law_moved ?c__law_moved ?k__law_moved ?p__law_ways ?l__law_ways ?c__law_ways ?k__law_ways ?p__law_first ?l__law_first ?c__law_first ?k__law_first ?p_law ?l_law ?c_law ?k_law ?z_all ?z_len ?z_list ?z_min ?z_range ?z_sorted ?z_tuple
    (case p__law_cell => k_is); (case l__law_cell => k_is); (case c__law_cell => k_is); (case k__law_cell => k_is); (case p__law_draw => k_is); (case l__law_draw => k_is); (case c__law_draw => k_is); (case k__law_draw => k_is); (case p__law_task => k_is); (case l__law_task => k_is); (case c__law_task => k_is); (case k__law_task => k_is); (case p_is_possible => k_is); (case l_is_possible => k_is); (case c_is_possible => k_is); (case k_is_possible => k_is); (case p_moved => k_is); (case l_moved => k_is); (case c_moved => k_is); (case k_moved => k_is); (case p_transitions => k_is); (case l_transitions => k_is); (case c_transitions => k_is); (case k_transitions => k_is); (case p_shortest_plan => k_is); (case l_shortest_plan => k_is); (case c_shortest_plan => k_is); (case k_shortest_plan => k_is); (case d_shortest_plan_start => k_is); (case e_shortest_plan_start => k_is); (case d_shortest_plan_goal => k_is); (case p__law_can => k_is); (case l__law_can => k_is); (case c__law_can => k_is); (case k__law_can => k_is); (case p__law_moved => k_is); (case l__law_moved => k_is); (case c__law_moved => k_is); (case k__law_moved => k_is); (case p__law_ways => k_is); (case l__law_ways => k_is); (case c__law_ways => k_is); (case k__law_ways => k_is); (case p__law_first => k_is); (case l__law_first => k_is); (case c__law_first => k_is); (case k__law_first => k_is); (case p_law => k_is); (case l_law => k_is); (case c_law => k_is); (case k_law => k_is); (case z_all => k_is); (case z_len => k_is); (case z_list => k_is); (case z_min => k_is); (case z_range => k_is); (case z_sorted => k_is); (case z_tuple => k_is)
#print axioms PySem.Challenge.cw_tidyback_k11_the_first_of_the_shortest_p_holds
