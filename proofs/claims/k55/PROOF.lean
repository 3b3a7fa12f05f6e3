import PyProof.Rows.All
import Wide.All
import OpenK.AllK
import Wide.FinOn
import HandS.ForMost
import HandS.Exc
import HandS.TryOnly
import HandS.ExcOwn
import HandS.WordsExc
import HandS.CallSlots
import HandS.Deep
import HandS.TupAny
import HandS.SortInts
import HandS.Style
import HandS.IsInst
import HandS.Iter
import HandS.Defaults
import HandS.MakeKwOnly
import HandS.Dict
import KE.KDictDisplayH
import PySem.Challenge.RW_tidyback_k55_cancelled_code
set_option Elab.async false
set_option linter.all false
set_option maxRecDepth 100000
set_option maxHeartbeats 8000000
namespace VL
open PySem PySem.Spec PyProof.Rows L2

/-! ## data and results -/
inductive Rs (α : Type) where
  | ok (a : α)
  | ex (c : Nat) (fs : List (Str × PyData))
  | no
def Rs.bind {α β : Type} : Rs α → (α → Rs β) → Rs β
  | .ok a, f => f a
  | .ex c fs, _ => .ex c fs
  | .no, _ => .no
@[simp] theorem Rs.bind_ok {α β : Type} (a : α) (f : α → Rs β) : (Rs.ok a).bind f = f a := rfl
@[simp] theorem Rs.bind_ex {α β : Type} (c fs) (f : α → Rs β) : (Rs.ex c fs : Rs α).bind f = .ex c fs := rfl
@[simp] theorem Rs.bind_no {α β : Type} (f : α → Rs β) : (Rs.no : Rs α).bind f = .no := rfl

/-- what an expression comes to: plain data; a list, a dict of its own (o), or borrowed of a slot (b); the script -/
inductive RV where
  | d (x : PyData)
  | ol (xs : List PyData) | bl (xs : List PyData)
  | od (kvs : List (Key × PyData)) | bd (kvs : List (Key × PyData))
  | ot (kvs : List (List Int × PyData)) | bt (kvs : List (List Int × PyData))
  | sc (ns : List Int)
  /-- a caught exception: where it lies, its dict, its class, its fields -/
  | xo (a dd : Addr) (c : Nat) (fs : List (Str × PyData))
abbrev VEnv := List (Option RV)

mutual
inductive Dq (K : PySem.W.Frag) (F : Hp) : V → PyData → Prop
  | non : Dq K F .non .none
  | bl (b : Bool) : Dq K F (.bl b) (.bool b)
  | int (i : Int) : Dq K F (.int i) (.int i)
  | str (x : Str) : Dq K F (.str x) (.str x)
  | lst {a : Addr} {xs : List V} {ds : List PyData} : F a = some (.lst xs) → DqA K F xs ds → Dq K F (.ref a) (.list ds)
  | tup {a : Addr} {xs : List V} {ds : List PyData} : SqT K F a xs → DqA K F xs ds → Dq K F (.ref a) (.tuple ds)
inductive DqA (K : PySem.W.Frag) (F : Hp) : List V → List PyData → Prop
  | nil : DqA K F [] []
  | cons {v : V} {vs : List V} {d : PyData} {ds : List PyData} : Dq K F v d → DqA K F vs ds → DqA K F (v :: vs) (d :: ds)
end

theorem same_seqT {K : PySem.W.Frag} {H H' : Hp} {a : Addr} {xs : List V} (e : Same H H') (h : SqT K H a xs) : SqT K H' a xs := by
  rcases h with (h | ⟨o, h⟩) | h
  · exact .inl (.inl (e _ _ h))
  · exact .inl (.inr ⟨o, e _ _ h⟩)
  · exact .inr h

mutual
theorem Dq.mono {K : PySem.W.Frag} {F F' : Hp} (e : Same F F') : ∀ (d : PyData) (v : V), Dq K F v d → Dq K F' v d
  | .none, _, h => by cases h; exact .non
  | .bool b, _, h => by cases h; exact .bl b
  | .int i, _, h => by cases h; exact .int i
  | .str x, _, h => by cases h; exact .str x
  | .list ds, _, h => by
    cases h with
    | lst h1 h2 => exact .lst (e _ _ h1) (DqA.mono e ds _ h2)
  | .tuple ds, _, h => by
    cases h with
    | tup h1 h2 => exact .tup (same_seqT e h1) (DqA.mono e ds _ h2)
  | .dict _, _, h => by cases h
theorem DqA.mono {K : PySem.W.Frag} {F F' : Hp} (e : Same F F') : ∀ (ds : List PyData) (vs : List V), DqA K F vs ds → DqA K F' vs ds
  | [], _, h => by cases h; exact .nil
  | d :: ds, _, h => by
    cases h with
    | cons h1 h2 => exact .cons (Dq.mono e d _ h1) (DqA.mono e ds _ h2)
end
mutual
theorem Dq.dp {K : PySem.W.Frag} {F : Hp} : ∀ (d : PyData) (v : V), Dq K F v d → Dp K F v d
  | .none, _, h => by cases h; exact .non
  | .bool b, _, h => by cases h; exact .bl b
  | .int i, _, h => by cases h; exact .int i
  | .str x, _, h => by cases h; exact .str x
  | .list ds, _, h => by
    cases h with
    | lst h1 h2 => exact .lst (SqL.of h1) (DqA.dp ds _ h2)
  | .tuple ds, _, h => by
    cases h with
    | tup h1 h2 => exact .tup h1 (DqA.dp ds _ h2)
  | .dict _, _, h => by cases h
theorem DqA.dp {K : PySem.W.Frag} {F : Hp} : ∀ (ds : List PyData) (vs : List V), DqA K F vs ds → DpAll K F vs ds
  | [], _, h => by cases h; exact .nil
  | d :: ds, _, h => by
    cases h with
    | cons h1 h2 => exact .cons (Dq.dp d _ h1) (DqA.dp ds _ h2)
end
theorem DqA.length {K : PySem.W.Frag} {F : Hp} : ∀ {ds : List PyData} {vs : List V}, DqA K F vs ds → vs.length = ds.length
  | [], _, h => by cases h; rfl
  | d :: ds, _, h => by
    cases h with
    | cons h1 h2 => simp [DqA.length h2]
theorem DqA.get {K : PySem.W.Frag} {F : Hp} : ∀ {ds : List PyData} {vs : List V} {i : Nat} {d : PyData}, DqA K F vs ds → ds[i]? = some d → ∃ v, vs[i]? = some v ∧ Dq K F v d
  | [], _, i, _, h, e => by simp at e
  | d :: ds, _, 0, x, h, e => by
    cases h with
    | cons h1 h2 => simp at e; subst e; exact ⟨_, rfl, h1⟩
  | d :: ds, _, i + 1, x, h, e => by
    cases h with
    | cons h1 h2 =>
      obtain ⟨v, q1, q2⟩ := DqA.get (i := i) h2 (by simpa using e)
      exact ⟨v, by simpa using q1, q2⟩
theorem DqA.get' {K : PySem.W.Frag} {F : Hp} : ∀ {ds : List PyData} {vs : List V} {i : Nat} {v : V}, DqA K F vs ds → vs[i]? = some v → ∃ d, ds[i]? = some d ∧ Dq K F v d
  | [], _, i, _, h, e => by cases h; simp at e
  | d :: ds, _, 0, x, h, e => by
    cases h with
    | cons h1 h2 => simp at e; subst e; exact ⟨_, rfl, h1⟩
  | d :: ds, _, i + 1, x, h, e => by
    cases h with
    | cons h1 h2 =>
      obtain ⟨v, q1, q2⟩ := DqA.get' (i := i) h2 (by simpa using e)
      exact ⟨v, by simpa using q1, q2⟩
theorem DqA.append {K : PySem.W.Frag} {F : Hp} : ∀ {ds es : List PyData} {vs ws : List V}, DqA K F vs ds → DqA K F ws es → DqA K F (vs ++ ws) (ds ++ es)
  | [], _, _, _, h, k => by cases h; exact k
  | d :: ds, _, _, _, h, k => by
    cases h with
    | cons h1 h2 => exact .cons h1 (DqA.append h2 k)
theorem DqA.take {K : PySem.W.Frag} {F : Hp} : ∀ {ds : List PyData} {vs : List V} (n : Nat), DqA K F vs ds → DqA K F (vs.take n) (ds.take n)
  | _, _, 0, _ => .nil
  | [], _, n + 1, h => by cases h; exact .nil
  | d :: ds, _, n + 1, h => by
    cases h with
    | cons h1 h2 => exact .cons h1 (DqA.take n h2)
theorem DqA.drop {K : PySem.W.Frag} {F : Hp} : ∀ {ds : List PyData} {vs : List V} (n : Nat), DqA K F vs ds → DqA K F (vs.drop n) (ds.drop n)
  | _, _, 0, h => h
  | [], _, n + 1, h => by cases h; exact .nil
  | d :: ds, _, n + 1, h => by
    cases h with
    | cons h1 h2 => exact DqA.drop n h2
theorem DqA.set {K : PySem.W.Frag} {F : Hp} {v : V} {d : PyData} (q : Dq K F v d) : ∀ {ds : List PyData} {vs : List V} (n : Nat), DqA K F vs ds → DqA K F (vs.set n v) (ds.set n d)
  | [], _, n, h => by cases h; exact .nil
  | _ :: ds, _, 0, h => by
    cases h with
    | cons h1 h2 => exact .cons q h2
  | _ :: ds, _, n + 1, h => by
    cases h with
    | cons h1 h2 => exact .cons h1 (DqA.set q n h2)
theorem DqA.rev {K : PySem.W.Frag} {F : Hp} : ∀ {ds : List PyData} {vs : List V}, DqA K F vs ds → DqA K F vs.reverse ds.reverse
  | [], _, h => by cases h; exact .nil
  | _ :: ds, _, h => by
    cases h with
    | cons h1 h2 => rw [List.reverse_cons, List.reverse_cons]; exact DqA.append (DqA.rev h2) (.cons h1 .nil)
theorem DqA.ints {K : PySem.W.Frag} {F : Hp} : ∀ {ns : List Int} {vs : List V}, DqA K F vs (ns.map PyData.int) → vs = ns.map V.int
  | [], _, h => by cases h; rfl
  | _ :: ns, _, h => by
    cases h with
    | cons h1 h2 => cases h1; rw [DqA.ints h2]; rfl
theorem DqA.of_ints {K : PySem.W.Frag} {F : Hp} : ∀ (ns : List Int), DqA K F (ns.map V.int) (ns.map PyData.int)
  | [] => .nil
  | i :: ns => .cons (.int i) (DqA.of_ints ns)

/-! ## the frozen part of the heap -/
/-- the frozen part F of H: all tuples are in it -/
structure Cfg (F H : Hp) : Prop where
  sub : Same F H
  tup : ∀ a xs, H a = some (.tup xs) → F a = some (.tup xs)
structure Grow (F H F' H' : Hp) : Prop where
  cfg : Cfg F' H'
  ff : Same F F'
  hh : Same H H'
  nw : ∀ a o, F' a = some o → F a = some o ∨ H a = none
theorem Grow.refl {F H : Hp} (c : Cfg F H) : Grow F H F H := ⟨c, Same.refl _, Same.refl _, fun _ _ h => .inl h⟩
theorem same_none {H H' : Hp} (e : Same H H') {a : Addr} (h : H' a = none) : H a = none := e.free h
theorem Grow.trans {F H F1 H1 F2 H2 : Hp} (a : Grow F H F1 H1) (b : Grow F1 H1 F2 H2) : Grow F H F2 H2 :=
  ⟨b.cfg, a.ff.trans b.ff, a.hh.trans b.hh, fun x o h => by
    rcases b.nw x o h with h | h
    · exact a.nw x o h
    · exact .inr (same_none a.hh h)⟩
theorem Grow.stillFree {F H F' H' : Hp} (g : Grow F H F' H') {p : Addr} {o : HO} (f : F p = none) (h : H p = some o) : F' p = none := by
  cases q : F' p with
  | none => rfl
  | some u =>
    rcases g.nw p u q with z | z
    · rw [f] at z; cases z
    · rw [h] at z; cases z
/-- a new frozen object -/
theorem Grow.newF {F H : Hp} (c : Cfg F H) {p : Addr} (o : HO) (n : H p = none) : Grow F H (upd F p o) (upd H p o) where
  cfg := ⟨fun b u h => by
      by_cases e : b = p
      · subst e; rw [upd_same] at h ⊢; exact h
      · rw [upd_ne e] at h ⊢; exact c.sub b u h, fun b xs h => by
      by_cases e : b = p
      · subst e; rw [upd_same] at h ⊢; exact h
      · rw [upd_ne e] at h ⊢; exact c.tup b xs h⟩
  ff := fun b u h => by rw [upd_ne (ne_of_none h (same_none c.sub n))]; exact h
  hh := fun b u h => by rw [upd_ne (ne_of_none h n)]; exact h
  nw := fun b u h => by
    by_cases e : b = p
    · subst e; exact .inr n
    · rw [upd_ne e] at h; exact .inl h
/-- a new object of its own (no tuple) -/
theorem Grow.newO {F H : Hp} (c : Cfg F H) {p : Addr} (o : HO) (n : H p = none) (nt : ∀ xs, o ≠ .tup xs) : Grow F H F (upd H p o) where
  cfg := ⟨fun b u h => by rw [upd_ne (ne_of_none (c.sub _ _ h) n)]; exact c.sub b u h, fun b xs h => by
      by_cases e : b = p
      · subst e; rw [upd_same] at h; exact absurd (Option.some.inj h) (nt xs)
      · rw [upd_ne e] at h; exact c.tup b xs h⟩
  ff := Same.refl _
  hh := fun b u h => by rw [upd_ne (ne_of_none h n)]; exact h
  nw := fun _ _ h => .inl h
/-- what stood of its own is frozen -/
theorem Grow.freeze {F0 H0 F H : Hp} (g : Grow F0 H0 F H) {p : Addr} {o : HO} (n0 : H0 p = none) (f : F p = none) (h : H p = some o) : Grow F0 H0 (upd F p o) H where
  cfg := ⟨fun b u q => by
      by_cases e : b = p
      · subst e; rw [upd_same] at q; cases q; exact h
      · rw [upd_ne e] at q; exact g.cfg.sub b u q, fun b xs q => by
      by_cases e : b = p
      · subst e; rw [q] at h; cases h; exact upd_same
      · rw [upd_ne e]; exact g.cfg.tup b xs q⟩
  ff := fun b u q => by
    have : b ≠ p := fun e => by subst e; rw [g.ff b u q] at f; cases f
    rw [upd_ne this]; exact g.ff b u q
  hh := g.hh
  nw := fun b u q => by
    by_cases e : b = p
    · subst e; exact .inr n0
    · rw [upd_ne e] at q; exact g.nw b u q
/-- an object of its own changes -/
theorem Grow.write {F0 H0 F H : Hp} (g : Grow F0 H0 F H) {p : Addr} {o o' : HO} (n0 : H0 p = none) (f : F p = none) (h : H p = some o) (nt : ∀ xs, o' ≠ .tup xs) : Grow F0 H0 F (upd H p o') where
  cfg := ⟨fun b u q => by
      have : b ≠ p := fun e => by subst e; rw [q] at f; cases f
      rw [upd_ne this]; exact g.cfg.sub b u q, fun b xs q => by
      by_cases e : b = p
      · subst e; rw [upd_same] at q; exact absurd (Option.some.inj q) (nt xs)
      · rw [upd_ne e] at q; exact g.cfg.tup b xs q⟩
  ff := g.ff
  hh := fun b u q => by
    have : b ≠ p := fun e => by subst e; rw [q] at n0; cases n0
    rw [upd_ne this]; exact g.hh b u q
  nw := g.nw

/-! ## what a value stands for -/
def KD {κ : Type} (K : PySem.W.Frag) (F : Hp) : List (κ × V) → List (κ × PyData) → Prop := Paired fun (p : κ × V) (q : κ × PyData) => p.1 = q.1 ∧ Dq K F p.2 q.2
theorem KD.mono {κ : Type} {K : PySem.W.Frag} {F F' : Hp} (e : Same F F') {a : List (κ × V)} {b : List (κ × PyData)} (h : KD K F a b) : KD K F' a b :=
  Paired.mapP h fun _ _ z => ⟨z.1, z.2.mono e⟩
/-- a dict whose keys are tuples of ints, by its entries -/
def hashT (ks : List Int) : Int := reduceHash (Builtin.Tuple.tupleHashOf (ks.map hashInt))
abbrev TX := Nat × List (List Int × Addr × Value)
def DTOk (d : Addr) (t : TX) (h : Heap) : Prop := ∃ o es, h.get? d = some o ∧ o.ExactDict ∧ o.data = .dict es t.1 ∧ es.toList = t.2.map (fun x => (⟨hashT x.1, .ref x.2.1, x.2.2⟩ : DictEntry)) ∧ (t.2.map (·.1)).Nodup ∧ t.2.length ≤ sizeLine ∧ (d == sysModules) = false
def DTO (d : Addr) (xs : TX) : HO := .ext (DTOk d xs)
def KTl (K : PySem.W.Frag) (F : Hp) : List (List Int × Addr × Value) → List (List Int × PyData) → Prop := Paired fun p q => p.1 = q.1 ∧ SqT K F p.2.1 (p.1.map V.int) ∧ ∃ v, RelV v p.2.2 ∧ Dq K F v q.2
def KTq (K : PySem.W.Frag) (F : Hp) (t : TX) (kvs : List (List Int × PyData)) : Prop := KTl K F t.2 kvs
theorem KTl.mono {K : PySem.W.Frag} {F F' : Hp} (e : Same F F') {a : List (List Int × Addr × Value)} {b : List (List Int × PyData)} (h : KTl K F a b) : KTl K F' a b :=
  Paired.mapP h fun _ _ z => ⟨z.1, same_seqT e z.2.1, z.2.2.choose, z.2.2.choose_spec.1, z.2.2.choose_spec.2.mono e⟩
theorem KTq.mono {K : PySem.W.Frag} {F F' : Hp} (e : Same F F') {a : TX} {b : List (List Int × PyData)} (h : KTq K F a b) : KTq K F' a b := KTl.mono e h
theorem DTO_tup {d : Addr} {xs : TX} (ys : List V) : DTO d xs ≠ .tup ys := fun z => by
  have z' : HO.ext _ = HO.tup ys := z
  cases z'
def RVok (K : PySem.W.Frag) (H0 F H : Hp) (v : V) : RV → Prop
  | .d x => Dq K F v x
  | .ol xs => ∃ p vs, v = .ref p ∧ H0 p = none ∧ F p = none ∧ H p = some (.lst vs) ∧ DqA K F vs xs
  | .bl xs => ∃ p vs, v = .ref p ∧ H p = some (.lst vs) ∧ DqA K F vs xs
  | .od xs => ∃ p vs, v = .ref p ∧ H0 p = none ∧ F p = none ∧ H p = some (.dK vs) ∧ KD K F vs xs
  | .bd xs => ∃ p vs, v = .ref p ∧ H p = some (.dK vs) ∧ KD K F vs xs
  | .ot xs => ∃ p vs, v = .ref p ∧ H0 p = none ∧ F p = none ∧ H p = some (DTO p vs) ∧ KTq K F vs xs
  | .bt xs => ∃ p vs, v = .ref p ∧ H p = some (DTO p vs) ∧ KTq K F vs xs
  | .sc ns => ∃ a, v = .ref a ∧ SqL K F a (ns.map V.int)
  | .xo a dd _ fs => v = .ref a ∧ ∃ xs, H dd = some (.xd xs) ∧ KD K F xs fs
theorem RVok.grow {K : PySem.W.Frag} {H0 F H F' H' : Hp} {v : V} {r : RV} (h : RVok K H0 F H v r) (g : Grow F H F' H') : RVok K H0 F' H' v r := by
  cases r with
  | d x => exact Dq.mono g.ff x v h
  | ol xs => obtain ⟨p, vs, e, n0, f, hp, q⟩ := h; exact ⟨p, vs, e, n0, g.stillFree f hp, g.hh _ _ hp, DqA.mono g.ff _ _ q⟩
  | bl xs => obtain ⟨p, vs, e, hp, q⟩ := h; exact ⟨p, vs, e, g.hh _ _ hp, DqA.mono g.ff _ _ q⟩
  | od xs => obtain ⟨p, vs, e, n0, f, hp, q⟩ := h; exact ⟨p, vs, e, n0, g.stillFree f hp, g.hh _ _ hp, q.mono g.ff⟩
  | bd xs => obtain ⟨p, vs, e, hp, q⟩ := h; exact ⟨p, vs, e, g.hh _ _ hp, q.mono g.ff⟩
  | ot xs => obtain ⟨p, vs, e, n0, f, hp, q⟩ := h; exact ⟨p, vs, e, n0, g.stillFree f hp, g.hh _ _ hp, q.mono g.ff⟩
  | bt xs => obtain ⟨p, vs, e, hp, q⟩ := h; exact ⟨p, vs, e, g.hh _ _ hp, q.mono g.ff⟩
  | sc ns => obtain ⟨a, e, q⟩ := h; exact ⟨a, e, g.ff.seq q⟩
  | xo a dd c fs => obtain ⟨e, xs, hp, q⟩ := h; exact ⟨e, xs, g.hh _ _ hp, q.mono g.ff⟩
/-- fresh over a later heap is fresh over an earlier one -/
theorem RVok.older {K : PySem.W.Frag} {H0 H1 F H : Hp} {v : V} {r : RV} (h : RVok K H1 F H v r) (e : Same H0 H1) : RVok K H0 F H v r := by
  cases r with
  | ol xs => obtain ⟨p, vs, e1, n0, q⟩ := h; exact ⟨p, vs, e1, same_none e n0, q⟩
  | od xs => obtain ⟨p, vs, e1, n0, q⟩ := h; exact ⟨p, vs, e1, same_none e n0, q⟩
  | ot xs => obtain ⟨p, vs, e1, n0, q⟩ := h; exact ⟨p, vs, e1, same_none e n0, q⟩
  | _ => exact h

/-- of its own -/
def RV.own : RV → Bool
  | .ol _ | .od _ | .ot _ => true
  | _ => false
def RV.isB : RV → Bool
  | .bl _ | .bd _ | .bt _ => true
  | _ => false
/-- borrowed -/
def RV.bor : RV → RV
  | .ol xs => .bl xs
  | .od xs => .bd xs
  | .ot xs => .bt xs
  | r => r
theorem RVok.bor {K : PySem.W.Frag} {H0 F H : Hp} {v : V} {r : RV} (h : RVok K H0 F H v r) : RVok K H0 F H v r.bor := by
  cases r with
  | ol xs => obtain ⟨p, vs, e1, n0, f, q⟩ := h; exact ⟨p, vs, e1, q⟩
  | od xs => obtain ⟨p, vs, e1, n0, f, q⟩ := h; exact ⟨p, vs, e1, q⟩
  | ot xs => obtain ⟨p, vs, e1, n0, f, q⟩ := h; exact ⟨p, vs, e1, q⟩
  | _ => exact h

/-! ## the state of a body -/
structure Base where
  F : Hp
  H : Hp
structure StOk (K : PySem.W.Frag) (B : Base) (F : Hp) (env : VEnv) (σ : L2.St) (H : Hp) : Prop where
  gr : Grow B.F B.H F H
  len : env.length = σ.length
  sl : ∀ (i : Nat) (r : RV), env[i]? = some (some r) → ∃ v, σ[i]? = some (some v) ∧ RVok K B.H F H v r
  bo : ∀ (i : Nat) (r : RV) (p : Addr), env[i]? = some (some r) → r.isB = true → σ[i]? = some (some (.ref p)) → ∃ o, B.H p = some o
  dis : ∀ (i j : Nat) (r r' : RV) (p : Addr), i ≠ j → env[i]? = some (some r) → env[j]? = some (some r') → r.own = true → r'.own = true → σ[i]? = some (some (.ref p)) → σ[j]? ≠ some (some (.ref p))
theorem StOk.grow {K : PySem.W.Frag} {B : Base} {F H F' H' : Hp} {env : VEnv} {σ : L2.St} (s : StOk K B F env σ H) (g : Grow F H F' H') : StOk K B F' env σ H' :=
  ⟨s.gr.trans g, s.len, fun i r e => by
    obtain ⟨v, e1, h⟩ := s.sl i r e
    exact ⟨v, e1, h.grow g⟩, s.bo, s.dis⟩
theorem StOk.cfg {K : PySem.W.Frag} {B : Base} {F H : Hp} {env : VEnv} {σ : L2.St} (s : StOk K B F env σ H) : Cfg F H := s.gr.cfg

/-! ## expressions -/
section
variable (K : PySem.W.Frag) (ca : Nat → Addr)
def ExOk (F H : Hp) (cls : Value) (dx : Option Addr) (c : Nat) (fs : List (Str × PyData)) : Prop :=
  cls = .ref (ca c) ∧ ∃ dd xs, dx = some dd ∧ H dd = some (.xd xs) ∧ KD K F xs fs
def PostX (W : WX) (σ : L2.St) (F H : Hp) (c : Nat) (fs : List (Str × PyData)) : Prop :=
  ∀ F' H' cls dx, Grow F H F' H' → ExOk K ca F' H' cls dx c fs → W cls dx σ H'
def PostE (W : WX) (σ : L2.St) (F H : Hp) (Q : VK) : Rs RV → Prop
  | .ok r => ∀ F' H' v, Grow F H F' H' → RVok K H F' H' v r → Q v H'
  | .ex c fs => PostX K ca W σ F H c fs
  | .no => False
def PostB (W : WX) (σ : L2.St) (F H : Hp) (Q : Bool → Hp → Prop) : Rs Bool → Prop
  | .ok b => ∀ F' H', Grow F H F' H' → Q b H'
  | .ex c fs => PostX K ca W σ F H c fs
  | .no => False
def PostA (W : WX) (σ : L2.St) (F H : Hp) (Q : List V → Hp → Prop) : Rs (List RV) → Prop
  | .ok rs => ∀ F' H' vs, Grow F H F' H' → Paired (fun v r => RVok K H F' H' v r) vs rs → Q vs H'
  | .ex c fs => PostX K ca W σ F H c fs
  | .no => False
def SndE (W : WX) (t : TE) (f : VEnv → Rs RV) : Prop := ∀ B F env σ H Q, StOk K B F env σ H → PostE K ca W σ F H Q (f env) → t σ H Q
def SndT (W : WX) (t : TT) (f : VEnv → Rs Bool) : Prop := ∀ B F env σ H Q, StOk K B F env σ H → PostB K ca W σ F H Q (f env) → t σ H Q
def SndA (W : WX) (t : TA) (f : VEnv → Rs (List RV)) : Prop := ∀ B F env σ H Q, StOk K B F env σ H → PostA K ca W σ F H Q (f env) → t σ H Q
end
section
variable {K : PySem.W.Frag} {ca : Nat → Addr} {W : WX} {B : Base} {F H F1 H1 : Hp} {env : VEnv} {σ : L2.St}
theorem PostX.mono {c : Nat} {fs : List (Str × PyData)} (g : Grow F H F1 H1) (h : PostX K ca W σ F H c fs) : PostX K ca W σ F1 H1 c fs :=
  fun F' H' cls dx g' e => h F' H' cls dx (g.trans g') e
theorem PostE.mono {Q : VK} {m : Rs RV} (g : Grow F H F1 H1) (h : PostE K ca W σ F H Q m) : PostE K ca W σ F1 H1 Q m := by
  cases m with
  | ok r => exact fun F' H' v g' e => h F' H' v (g.trans g') (e.older g.hh)
  | ex c fs => exact PostX.mono g h
  | no => exact h
theorem PostB.mono {Q : Bool → Hp → Prop} {m : Rs Bool} (g : Grow F H F1 H1) (h : PostB K ca W σ F H Q m) : PostB K ca W σ F1 H1 Q m := by
  cases m with
  | ok r => exact fun F' H' g' => h F' H' (g.trans g')
  | ex c fs => exact PostX.mono g h
  | no => exact h
theorem paired_older {K : PySem.W.Frag} {H0 H1 F H : Hp} (e : Same H0 H1) {vs : List V} {rs : List RV} (h : Paired (fun v r => RVok K H1 F H v r) vs rs) : Paired (fun v r => RVok K H0 F H v r) vs rs :=
  Paired.mapP h fun _ _ z => z.older e
theorem paired_grow {K : PySem.W.Frag} {H0 F H F' H' : Hp} (g : Grow F H F' H') {vs : List V} {rs : List RV} (h : Paired (fun v r => RVok K H0 F H v r) vs rs) : Paired (fun v r => RVok K H0 F' H' v r) vs rs :=
  Paired.mapP h fun _ _ z => z.grow g
theorem PostA.mono {Q : List V → Hp → Prop} {m : Rs (List RV)} (g : Grow F H F1 H1) (h : PostA K ca W σ F H Q m) : PostA K ca W σ F1 H1 Q m := by
  cases m with
  | ok r => exact fun F' H' v g' e => h F' H' v (g.trans g') (paired_older g.hh e)
  | ex c fs => exact PostX.mono g h
  | no => exact h
/-- one part, then what hangs on it -/
theorem seqE {t : TE} {f : VEnv → Rs RV} {Q : VK} {α : Type} {k : RV → Rs α} (P : Rs α → Prop) (s : SndE K ca W t f) (st : StOk K B F env σ H)
    (post : P ((f env).bind k)) (hx : ∀ c fs, P (.ex c fs) → PostX K ca W σ F H c fs) (hn : ¬ P .no)
    (h : ∀ r F1 H1 v, P (k r) → Grow F H F1 H1 → RVok K H F1 H1 v r → Q v H1) : t σ H Q := by
  refine s B F env σ H Q st ?_
  cases e : f env with
  | ok r => rw [e] at post; exact fun F' H' v g q => h r F' H' v post g q
  | ex c fs => rw [e] at post; exact hx c fs post
  | no => rw [e] at post; exact hn post
theorem seqT {t : TT} {f : VEnv → Rs Bool} {Q : Bool → Hp → Prop} {α : Type} {k : Bool → Rs α} (P : Rs α → Prop) (s : SndT K ca W t f) (st : StOk K B F env σ H)
    (post : P ((f env).bind k)) (hx : ∀ c fs, P (.ex c fs) → PostX K ca W σ F H c fs) (hn : ¬ P .no)
    (h : ∀ r F1 H1, P (k r) → Grow F H F1 H1 → Q r H1) : t σ H Q := by
  refine s B F env σ H Q st ?_
  cases e : f env with
  | ok r => rw [e] at post; exact fun F' H' g => h r F' H' post g
  | ex c fs => rw [e] at post; exact hx c fs post
  | no => rw [e] at post; exact hn post
theorem seqA {t : TA} {f : VEnv → Rs (List RV)} {Q : List V → Hp → Prop} {α : Type} {k : List RV → Rs α} (P : Rs α → Prop) (s : SndA K ca W t f) (st : StOk K B F env σ H)
    (post : P ((f env).bind k)) (hx : ∀ c fs, P (.ex c fs) → PostX K ca W σ F H c fs) (hn : ¬ P .no)
    (h : ∀ r F1 H1 vs, P (k r) → Grow F H F1 H1 → Paired (fun v r => RVok K H F1 H1 v r) vs r → Q vs H1) : t σ H Q := by
  refine s B F env σ H Q st ?_
  cases e : f env with
  | ok r => rw [e] at post; exact fun F' H' v g q => h r F' H' v post g q
  | ex c fs => rw [e] at post; exact hx c fs post
  | no => rw [e] at post; exact hn post
end

structure VE (ca : Nat → Addr) (W : WX) (X : Cx) (e : Expr) (f : VEnv → Rs RV) : Prop where
  ex : ∃ t, PE X e t ∧ SndE X.K ca W t f
structure VT (ca : Nat → Addr) (W : WX) (X : Cx) (e : Expr) (f : VEnv → Rs Bool) : Prop where
  ex : ∃ t, PT X e t ∧ SndT X.K ca W t f
structure VW (ca : Nat → Addr) (W : WX) (X : Cx) (e : Expr) (f : VEnv → Rs Bool) : Prop where
  ex : ∃ t, PW X e t ∧ SndT X.K ca W t f
structure VA (ca : Nat → Addr) (W : WX) (X : Cx) (es : List Expr) (f : VEnv → Rs (List RV)) : Prop where
  ex : ∃ t, PA X es t ∧ SndA X.K ca W t f

section
variable {ca : Nat → Addr} {W : WX} {X : Cx} {a b e : Expr} {es : List Expr} {fa fb : VEnv → Rs RV} {pos : Pos}
/-! ### names and constants -/
def cC (x : PyData) : VEnv → Rs RV := fun _ => .ok (.d x)
theorem ve_int {i j pos} : VE ca W X (.Constant (.int i) j pos) (cC (.int i)) := ⟨_, pe_int, fun _ _ _ _ _ _ st p => p _ _ _ (Grow.refl st.cfg) (.int i)⟩
theorem ve_bl {b j pos} : VE ca W X (.Constant (.bool b) j pos) (cC (.bool b)) := ⟨_, pe_bl, fun _ _ _ _ _ _ st p => p _ _ _ (Grow.refl st.cfg) (.bl b)⟩
theorem ve_non {j pos} : VE ca W X (.Constant .none j pos) (cC .none) := ⟨_, pe_non, fun _ _ _ _ _ _ st p => p _ _ _ (Grow.refl st.cfg) .non⟩
theorem ve_str {x j pos} : VE ca W X (.Constant (.str x) j pos) (cC (.str x)) := ⟨_, pe_str, fun _ _ _ _ _ _ st p => p _ _ _ (Grow.refl st.cfg) (.str x)⟩
/-- a name: borrowed where the slot's list or dict is of its own -/
def cV (i : Nat) : VEnv → Rs RV := fun env => match env[i]? with
  | some (some r) => .ok r.bor
  | _ => .no
theorem snd_var {K : PySem.W.Frag} {i : Nat} : SndE K ca W (tVar i) (cV i) := by
  intro B F env σ H Q st p
  unfold cV at p
  split at p
  · rename_i r e
    obtain ⟨v, e1, h⟩ := st.sl i r e
    refine ⟨v, e1, p F H v (Grow.refl st.cfg) ?_⟩
    cases r with
    | ol xs => exact h.bor
    | od xs => exact h.bor
    | ot xs => exact h.bor
    | _ => exact h
  · exact p.elim
theorem vv (i : Nat) {x : Str} {pos : Pos} (hN : X.N[i]? = some x := by rfl) (hv : Vis X.env.scope x := by first | exact Or.inl rfl | exact Or.inr (Or.inl rfl) | exact Or.inr (Or.inr rfl)) (hd : (x == ("__debug__" : Str)) = false := by decide)
    (hcd : (x == ("__classdict__" : Str)) = false := by decide) : VE ca W X (.Name x pos) (cV i) := ⟨_, pe_var hN hv hd hcd, snd_var⟩
/-- a constant of the module: an int, a text -/
theorem ve_gint {x : Str} {i : Int} {t : Tok} {pos : Pos} (hg : Gl X x) (hm : X.mg x = some (.int i t)) (hd : (x == ("__debug__" : Str)) = false := by decide) : VE ca W X (.Name x pos) (cC (.int i)) :=
  ⟨_, pe_glob hg hm (v := .int i) ⟨t, rfl⟩ hd, fun _ _ _ _ _ _ st p => p _ _ _ (Grow.refl st.cfg) (.int i)⟩
theorem ve_gstr {x y : Str} {t : Tok} {pos : Pos} (hg : Gl X x) (hm : X.mg x = some (.str y t)) (hd : (x == ("__debug__" : Str)) = false := by decide) : VE ca W X (.Name x pos) (cC (.str y)) :=
  ⟨_, pe_glob hg hm (v := .str y) ⟨t, rfl⟩ hd, fun _ _ _ _ _ _ st p => p _ _ _ (Grow.refl st.cfg) (.str y)⟩

/-! ### operators by their values -/
def Op2S (K : PySem.W.Frag) (ca : Nat → Addr) (r : R2) (g : RV → RV → Rs RV) : Prop := ∀ (W : WX) σ F0 H0 F H v1 v2 a b Q, Grow F0 H0 F H → RVok K H0 F H v1 a → RVok K H0 F H v2 b → PostE K ca W σ F0 H0 Q (g a b) → r v1 v2 H Q
def Op1S (K : PySem.W.Frag) (ca : Nat → Addr) (r : V → Hp → VK → Prop) (g : RV → Rs RV) : Prop := ∀ (W : WX) σ F0 H0 F H v a Q, Grow F0 H0 F H → RVok K H0 F H v a → PostE K ca W σ F0 H0 Q (g a) → r v H Q
def CaS (K : PySem.W.Frag) (ca : Nat → Addr) (r : List V → Hp → VK → Prop) (g : List RV → Rs RV) : Prop := ∀ (W : WX) σ F0 H0 F H vs as Q, Grow F0 H0 F H → Paired (fun v a => RVok K H0 F H v a) vs as → PostE K ca W σ F0 H0 Q (g as) → r vs H Q
def c2 (g : RV → RV → Rs RV) (fa fb : VEnv → Rs RV) : VEnv → Rs RV := fun env => (fa env).bind fun x => (fb env).bind fun y => g x y
def c1 (g : RV → Rs RV) (fa : VEnv → Rs RV) : VEnv → Rs RV := fun env => (fa env).bind g
theorem snd_op2 {K : PySem.W.Frag} {r : R2} {g : RV → RV → Rs RV} {ta tb : TE} (hr : Op2S K ca r g) (sa : SndE K ca W ta fa) (sb : SndE K ca W tb fb) : SndE K ca W (tOp r ta tb) (c2 g fa fb) := by
  intro B F env σ H Q st p
  show ta σ H fun x H1 => tb σ H1 fun y H2 => r x y H2 Q
  refine seqE (PostE K ca W σ F H Q) sa st p (fun _ _ h => h) (fun h => h) fun x F1 H1 v1 p1 g1 q1 => ?_
  refine seqE (PostE K ca W σ F H Q) sb (st.grow g1) p1 (fun _ _ h => PostX.mono g1 h) (fun h => h) fun y F2 H2 v2 p2 g2 q2 => ?_
  exact hr W σ F H F2 H2 v1 v2 x y Q (g1.trans g2) (q1.grow g2) (q2.older g1.hh) p2
theorem snd_op1 {K : PySem.W.Frag} {r : V → Hp → VK → Prop} {g : RV → Rs RV} {ta : TE} (hr : Op1S K ca r g) (sa : SndE K ca W ta fa) : SndE K ca W (tUn r ta) (c1 g fa) := by
  intro B F env σ H Q st p
  show ta σ H fun x H1 => r x H1 Q
  refine seqE (PostE K ca W σ F H Q) sa st p (fun _ _ h => h) (fun h => h) fun x F1 H1 v1 p1 g1 q1 => ?_
  exact hr W σ F H F1 H1 v1 x Q g1 q1 p1
theorem ve_op {op : Operator} {r : R2} {g : RV → RV → Rs RV} (ho : OpR X (binaryOp op) r) (hr : Op2S X.K ca r g) (ha : VE ca W X a fa) (hb : VE ca W X b fb) : VE ca W X (.BinOp a op b pos) (c2 g fa fb) := by
  obtain ⟨ta, pa, sa⟩ := ha
  obtain ⟨tb, pb, sb⟩ := hb
  exact ⟨_, pe_op ho pa pb, snd_op2 hr sa sb⟩
theorem ve_un {op : UnaryOp} {r : V → Hp → VK → Prop} {g : RV → Rs RV} (ho : UnR X (unaryOp op) r) (hr : Op1S X.K ca r g) (ha : VE ca W X a fa) : VE ca W X (.UnaryOp op a pos) (c1 g fa) := by
  obtain ⟨ta, pa, sa⟩ := ha
  exact ⟨_, pe_un ho pa, snd_op1 hr sa⟩
theorem ve_ix {r : R2} {g : RV → RV → Rs RV} (ho : IxR X r) (hr : Op2S X.K ca r g) (ha : VE ca W X a fa) (hb : VE ca W X b fb) (hs : PlainIx b) : VE ca W X (.Subscript a b pos) (c2 g fa fb) := by
  obtain ⟨ta, pa, sa⟩ := ha
  obtain ⟨tb, pb, sb⟩ := hb
  exact ⟨_, pe_ix ho pa pb hs, snd_op2 hr sa sb⟩
end
end VL

namespace VL
open PySem PySem.Spec PyProof.Rows L2

/-! ## freezing -/
def RV.toD : RV → Option PyData
  | .d x => some x
  | .ol xs => some (.list xs)
  | _ => none
def allD : List RV → Option (List PyData)
  | [] => some []
  | r :: rs => r.toD.bind fun d => (allD rs).bind fun ds => some (d :: ds)
theorem allD_len : ∀ {rs : List RV} {ds : List PyData}, allD rs = some ds → ds.length = rs.length
  | [], ds, h => by simp [allD] at h; subst h; rfl
  | r :: rs, ds, h => by
    unfold allD at h
    cases e : r.toD with
    | none => rw [e] at h; simp at h
    | some d =>
      cases e2 : allD rs with
      | none => rw [e, e2] at h; simp at h
      | some es => rw [e, e2] at h; simp at h; subst h; simp [allD_len e2]
def Fz (K : PySem.W.Frag) (H0 F H : Hp) (v : V) (d : PyData) : Prop := Dq K F v d ∨ ∃ p ws xs, v = .ref p ∧ d = .list xs ∧ H0 p = none ∧ H p = some (.lst ws) ∧ DqA K F ws xs
theorem Fz.of {K : PySem.W.Frag} {H0 F H : Hp} {v : V} {r : RV} {d : PyData} (h : RVok K H0 F H v r) (e : r.toD = some d) : Fz K H0 F H v d := by
  cases r with
  | d x => cases e; exact .inl h
  | ol xs => cases e; obtain ⟨p, vs, e1, n0, f, hp, q⟩ := h; exact .inr ⟨p, vs, xs, e1, rfl, n0, hp, q⟩
  | _ => cases e
theorem Fz.ofs {K : PySem.W.Frag} {H0 F H : Hp} : ∀ {rs : List RV} {vs : List V} {ds : List PyData}, Paired (fun v r => RVok K H0 F H v r) vs rs → allD rs = some ds → Paired (fun v d => Fz K H0 F H v d) vs ds
  | [], _, ds, h, e => by cases h; simp [allD] at e; subst e; exact .nil
  | r :: rs, _, ds, h, e => by
    cases h with
    | cons h1 h2 =>
      unfold allD at e
      cases e1 : r.toD with
      | none => rw [e1] at e; simp at e
      | some d =>
        cases e2 : allD rs with
        | none => rw [e1, e2] at e; simp at e
        | some es => rw [e1, e2] at e; simp at e; subst e; exact .cons (Fz.of h1 e1) (Fz.ofs h2 e2)
theorem Fz.mono {K : PySem.W.Frag} {H0 F F' H : Hp} (e : Same F F') {v : V} {d : PyData} (h : Fz K H0 F H v d) : Fz K H0 F' H v d := by
  rcases h with h | ⟨p, ws, xs, e1, e2, n0, hp, q⟩
  · exact .inl (h.mono e)
  · exact .inr ⟨p, ws, xs, e1, e2, n0, hp, DqA.mono e _ _ q⟩
theorem frz {K : PySem.W.Frag} {F0 H0 F H : Hp} (g : Grow F0 H0 F H) {v : V} {d : PyData} (h : Fz K H0 F H v d) : ∃ F', Grow F0 H0 F' H ∧ Same F F' ∧ Dq K F' v d := by
  rcases h with h | ⟨p, ws, xs, rfl, rfl, n0, hp, q⟩
  · exact ⟨F, g, Same.refl _, h⟩
  · cases e : F p with
    | none =>
      have s : Same F (upd F p (.lst ws)) := fun b u k => by rw [upd_ne (ne_of_none k e)]; exact k
      exact ⟨_, g.freeze n0 e hp, s, .lst upd_same (DqA.mono s _ _ q)⟩
    | some o =>
      have := g.cfg.sub _ _ e
      rw [hp] at this
      cases this
      exact ⟨F, g, Same.refl _, .lst e q⟩
theorem frzs {K : PySem.W.Frag} {F0 H0 H : Hp} : ∀ {F : Hp} {vs : List V} {ds : List PyData}, Grow F0 H0 F H → Paired (fun v d => Fz K H0 F H v d) vs ds → ∃ F', Grow F0 H0 F' H ∧ Same F F' ∧ DqA K F' vs ds
  | F, _, _, g, .nil => ⟨F, g, Same.refl _, .nil⟩
  | F, _, _, g, .cons h1 h2 => by
    obtain ⟨F1, g1, s1, q1⟩ := frz g h1
    obtain ⟨F2, g2, s2, q2⟩ := frzs g1 (Paired.mapP h2 fun _ _ z => z.mono s1)
    exact ⟨F2, g2, s1.trans s2, .cons (q1.mono s2) q2⟩

section
variable {ca : Nat → Addr} {W : WX} {X : Cx} {a b e : Expr} {es : List Expr} {fa fb : VEnv → Rs RV} {pos : Pos}
/-! ## argument lists, displays -/
def aN : VEnv → Rs (List RV) := fun _ => .ok []
def aC (f : VEnv → Rs RV) (g : VEnv → Rs (List RV)) : VEnv → Rs (List RV) := fun env => (f env).bind fun x => (g env).bind fun xs => .ok (x :: xs)
theorem va_nil : VA ca W X [] aN := ⟨_, pa_nil, fun _ _ _ _ _ _ st p => p _ _ _ (Grow.refl st.cfg) .nil⟩
theorem va_cons {f : VEnv → Rs RV} {g : VEnv → Rs (List RV)} (he : VE ca W X e f) (hr : VA ca W X es g) (hs : starEach (e :: es) X.env = (false, eval e X.env) :: starEach es X.env := by rfl) : VA ca W X (e :: es) (aC f g) := by
  obtain ⟨te, pe, se⟩ := he
  obtain ⟨tr, pr, sr⟩ := hr
  refine ⟨_, pa_cons pe pr hs, fun B F env σ H Q st p => ?_⟩
  show te σ H fun x H1 => tr σ H1 fun xs H2 => Q (x :: xs) H2
  refine seqE (PostA X.K ca W σ F H Q) se st p (fun _ _ h => h) (fun h => h) fun x F1 H1 v1 p1 g1 q1 => ?_
  refine seqA (PostA X.K ca W σ F H Q) sr (st.grow g1) p1 (fun _ _ h => PostX.mono g1 h) (fun h => h) fun xs F2 H2 vs p2 g2 q2 => ?_
  exact p2 F2 H2 (v1 :: vs) (g1.trans g2) (.cons (q1.grow g2) (paired_older g1.hh q2))
def rsO {α : Type} : Option α → Rs α
  | some a => .ok a
  | none => .no
@[simp] theorem rsO_some {α : Type} (a : α) : rsO (some a) = .ok a := rfl
@[simp] theorem rsO_none {α : Type} : rsO (none : Option α) = .no := rfl
def gTupl (rs : List RV) : Rs RV := (rsO (allD rs)).bind fun ds => if ds.length ≤ 1000 then .ok (.d (.tuple ds)) else .no
def gList (rs : List RV) : Rs RV := (rsO (allD rs)).bind fun ds => if ds.length ≤ 1000 then .ok (.ol ds) else .no
def cA (g : List RV → Rs RV) (f : VEnv → Rs (List RV)) : VEnv → Rs RV := fun env => (f env).bind g
theorem small_line {n : Nat} (h : n ≤ 1000) : n ≤ sizeLine := Nat.le_of_lt (small1000 h)
theorem ve_tup {x1} {f : VEnv → Rs (List RV)} (h : VA ca W X es f) : VE ca W X (.Tuple es x1 pos) (cA gTupl f) := by
  obtain ⟨t, pa, sa⟩ := h
  refine ⟨_, pe_tup pa, fun B F env σ H Q st p => ?_⟩
  show t σ H fun xs H1 => xs.length ≤ sizeLine ∧ ∀ p, H1 p = none → Q (.ref p) (upd H1 p (.tup xs))
  refine seqA (PostE X.K ca W σ F H Q) sa st p (fun _ _ h => h) (fun h => h) fun rs F1 H1 vs p1 g1 q1 => ?_
  unfold gTupl at p1
  cases e : allD rs with
  | none => rw [e] at p1; exact p1.elim
  | some ds =>
    rw [e] at p1
    simp only [rsO_some, Rs.bind_ok] at p1
    split at p1
    · rename_i hz
      obtain ⟨F2, g2, s2, q2⟩ := frzs g1 (Fz.ofs q1 e)
      refine ⟨by rw [q2.length]; exact small_line hz, fun a n => ?_⟩
      have g3 := Grow.newF g2.cfg (.tup vs) n
      exact p1 _ _ _ (g2.trans g3) (.tup (.inl (.inl upd_same)) (DqA.mono g3.ff _ _ q2))
    · exact p1.elim
theorem ve_lst {f : VEnv → Rs (List RV)} (h : VA ca W X es f) : VE ca W X (.List es pos) (cA gList f) := by
  obtain ⟨t, pa, sa⟩ := h
  refine ⟨_, pe_lst pa, fun B F env σ H Q st p => ?_⟩
  show t σ H fun xs H1 => xs.length ≤ sizeLine ∧ ∀ p, H1 p = none → Q (.ref p) (upd H1 p (.lst xs))
  refine seqA (PostE X.K ca W σ F H Q) sa st p (fun _ _ h => h) (fun h => h) fun rs F1 H1 vs p1 g1 q1 => ?_
  unfold gList at p1
  cases e : allD rs with
  | none => rw [e] at p1; exact p1.elim
  | some ds =>
    rw [e] at p1
    simp only [rsO_some, Rs.bind_ok] at p1
    split at p1
    · rename_i hz
      obtain ⟨F2, g2, s2, q2⟩ := frzs g1 (Fz.ofs q1 e)
      refine ⟨by rw [q2.length]; exact small_line hz, fun a n => ?_⟩
      have g3 := Grow.newO g2.cfg (.lst vs) n (fun _ z => by cases z)
      exact p1 _ _ _ (g2.trans g3) ⟨a, vs, rfl, same_none g2.hh n, same_none g2.cfg.sub n, upd_same, q2⟩
    · exact p1.elim

/-! ## comparisons and tests -/
theorem ve_cmp {op : CmpOp} {r : R2} {g : RV → RV → Rs RV} (ho : OpR X (compareOp op) r) (hr : Op2S X.K ca r g) (ha : VE ca W X a fa) (hb : VE ca W X b fb) (hm : behindInMarks op b = false) : VE ca W X (.Compare a [op] [b] pos) (c2 g fa fb) := by
  obtain ⟨ta, pa, sa⟩ := ha
  obtain ⟨tb, pb, sb⟩ := hb
  exact ⟨_, pe_cmpR ho pa pb hm, snd_op2 hr sa sb⟩
/-- a value that is True or False -/
def asB : RV → Rs Bool
  | .d (.bool b) => .ok b
  | _ => .no
def cB (f : VEnv → Rs RV) : VEnv → Rs Bool := fun env => (f env).bind asB
theorem snd_test {K : PySem.W.Frag} {t : TE} {f : VEnv → Rs RV} (s : SndE K ca W t f) : SndT K ca W (tTest t) (cB f) := by
  intro B F env σ H Q st p
  show t σ H fun x H' => ∃ k, x = .bl k ∧ Q k H'
  refine seqE (PostB K ca W σ F H Q) s st p (fun _ _ h => h) (fun h => h) fun x F1 H1 v1 p1 g1 q1 => ?_
  unfold asB at p1
  split at p1
  · rename_i k
    cases q1
    exact ⟨k, rfl, p1 _ _ g1⟩
  · exact p1.elim
theorem vt_cmp {op : CmpOp} {r : R2} {g : RV → RV → Rs RV} (ho : OpR X (compareOp op) r) (hr : Op2S X.K ca r g) (ha : VE ca W X a fa) (hb : VE ca W X b fb) (hm : behindInMarks op b = false) : VT ca W X (.Compare a [op] [b] pos) (cB (c2 g fa fb)) := by
  obtain ⟨ta, pa, sa⟩ := ha
  obtain ⟨tb, pb, sb⟩ := hb
  exact ⟨_, pt_cmpR ho pa pb hm, snd_test (snd_op2 hr sa sb)⟩
theorem vt_val {f : VEnv → Rs RV} (h : VE ca W X e f) (he : ∀ whole, isTrue e X.env whole = (do let v ← whole; standAt e.pos; holding [v] (truthy v)) := by intro _; rfl) : VT ca W X e (cB f) := by
  obtain ⟨t, pe, se⟩ := h
  exact ⟨_, pt_val pe he, snd_test se⟩
def bNot (f : VEnv → Rs Bool) : VEnv → Rs Bool := fun env => (f env).bind fun b => .ok (!b)
def bAnd (f g : VEnv → Rs Bool) : VEnv → Rs Bool := fun env => (f env).bind fun b => if b = true then g env else .ok false
def bOr (f g : VEnv → Rs Bool) : VEnv → Rs Bool := fun env => (f env).bind fun b => if b = true then .ok true else g env
theorem vt_not {f : VEnv → Rs Bool} (h : VT ca W X a f) : VT ca W X (.UnaryOp .Not a pos) (bNot f) := by
  obtain ⟨t, pe, se⟩ := h
  refine ⟨_, pt_not pe, fun B F env σ H Q st p => ?_⟩
  show t σ H fun c H1 => Q (!c) H1
  exact seqT (PostB X.K ca W σ F H Q) se st p (fun _ _ h => h) (fun h => h) fun x F1 H1 p1 g1 => p1 _ _ g1
theorem vw_and1 {f : VEnv → Rs Bool} (h : VT ca W X a f) : VW ca W X (.BoolOp .And [a] pos) f := by
  obtain ⟨t, pe, se⟩ := h
  exact ⟨_, pw_and1 pe, se⟩
theorem vw_or1 {f : VEnv → Rs Bool} (h : VT ca W X a f) : VW ca W X (.BoolOp .Or [a] pos) f := by
  obtain ⟨t, pe, se⟩ := h
  exact ⟨_, pw_or1 pe, se⟩
theorem vw_and {rest : List Expr} {f g : VEnv → Rs Bool} (h : VT ca W X a f) (h2 : VW ca W X (.BoolOp .And (b :: rest) pos) g) : VW ca W X (.BoolOp .And (a :: b :: rest) pos) (bAnd f g) := by
  obtain ⟨t, pe, se⟩ := h
  obtain ⟨u, pu, su⟩ := h2
  refine ⟨_, pw_and pe pu, fun B F env σ H Q st p => ?_⟩
  show t σ H fun c H1 => if c = true then u σ H1 Q else Q false H1
  refine seqT (PostB X.K ca W σ F H Q) se st p (fun _ _ h => h) (fun h => h) fun x F1 H1 p1 g1 => ?_
  cases x with
  | true => rw [if_pos rfl]; rw [if_pos rfl] at p1; exact su B F1 env σ H1 Q (st.grow g1) (PostB.mono g1 p1)
  | false => rw [if_neg Bool.false_ne_true]; rw [if_neg Bool.false_ne_true] at p1; exact p1 _ _ g1
theorem vw_or {rest : List Expr} {f g : VEnv → Rs Bool} (h : VT ca W X a f) (h2 : VW ca W X (.BoolOp .Or (b :: rest) pos) g) : VW ca W X (.BoolOp .Or (a :: b :: rest) pos) (bOr f g) := by
  obtain ⟨t, pe, se⟩ := h
  obtain ⟨u, pu, su⟩ := h2
  refine ⟨_, pw_or pe pu, fun B F env σ H Q st p => ?_⟩
  show t σ H fun c H1 => if c = true then Q true H1 else u σ H1 Q
  refine seqT (PostB X.K ca W σ F H Q) se st p (fun _ _ h => h) (fun h => h) fun x F1 H1 p1 g1 => ?_
  cases x with
  | false => rw [if_neg Bool.false_ne_true]; rw [if_neg Bool.false_ne_true] at p1; exact su B F1 env σ H1 Q (st.grow g1) (PostB.mono g1 p1)
  | true => rw [if_pos rfl]; rw [if_pos rfl] at p1; exact p1 _ _ g1
theorem vw {f : VEnv → Rs Bool} (h : VW ca W X e f) : VT ca W X e f := by
  obtain ⟨t, pe, se⟩ := h
  exact ⟨_, pe.pt, se⟩
/-! and, or, not as values (truth values) -/
def vAnd (f g : VEnv → Rs RV) : VEnv → Rs RV := fun env => (cB f env).bind fun b => if b = true then g env else .ok (.d (.bool false))
def vOr (f g : VEnv → Rs RV) : VEnv → Rs RV := fun env => (cB f env).bind fun b => if b = true then .ok (.d (.bool true)) else g env
def vNot (f : VEnv → Rs RV) : VEnv → Rs RV := fun env => (cB f env).bind fun b => .ok (.d (.bool (!b)))
theorem ve_one {op} {f : VEnv → Rs RV} (h : VE ca W X a f) : VE ca W X (.BoolOp op [a] pos) f := by
  obtain ⟨t, pe, se⟩ := h
  exact ⟨_, pe_one pe, se⟩
theorem seqBE {K : PySem.W.Frag} {B : Base} {F H : Hp} {env : VEnv} {σ : L2.St} {t : TE} {f : VEnv → Rs RV} {Q : VK} {α : Type} {k : Bool → Rs α} (P : Rs α → Prop) (s : SndE K ca W t f) (st : StOk K B F env σ H)
    (post : P ((cB f env).bind k)) (hx : ∀ c fs, P (.ex c fs) → PostX K ca W σ F H c fs) (hn : ¬ P .no)
    (h : ∀ r F1 H1, P (k r) → Grow F H F1 H1 → Q (.bl r) H1) : t σ H Q := by
  refine s B F env σ H Q st ?_
  unfold cB at post
  cases e : f env with
  | ok r =>
    rw [e] at post
    intro F' H' v g q
    cases r with
    | d x =>
      cases x with
      | bool b => cases q; exact h b F' H' post g
      | _ => exact absurd post hn
    | _ => exact absurd post hn
  | ex c fs => rw [e] at post; exact hx c fs post
  | no => rw [e] at post; exact hn post
theorem ve_and {rest : List Expr} {f g : VEnv → Rs RV} (h : VE ca W X a f) (h2 : VE ca W X (.BoolOp .And (b :: rest) pos) g) : VE ca W X (.BoolOp .And (a :: b :: rest) pos) (vAnd f g) := by
  obtain ⟨t, pe, se⟩ := h
  obtain ⟨u, pu, su⟩ := h2
  refine ⟨_, pe_and pe pu, fun B F env σ H Q st p => ?_⟩
  show t σ H fun x H1 => ∃ c, x = .bl c ∧ if c = true then u σ H1 Q else Q (.bl false) H1
  refine seqBE (PostE X.K ca W σ F H Q) se st p (fun _ _ h => h) (fun h => h) fun x F1 H1 p1 g1 => ⟨x, rfl, ?_⟩
  cases x with
  | true => rw [if_pos rfl]; rw [if_pos rfl] at p1; exact su B F1 env σ H1 Q (st.grow g1) (PostE.mono g1 p1)
  | false => rw [if_neg Bool.false_ne_true]; rw [if_neg Bool.false_ne_true] at p1; exact p1 _ _ _ g1 (.bl false)
theorem ve_or {rest : List Expr} {f g : VEnv → Rs RV} (h : VE ca W X a f) (h2 : VE ca W X (.BoolOp .Or (b :: rest) pos) g) : VE ca W X (.BoolOp .Or (a :: b :: rest) pos) (vOr f g) := by
  obtain ⟨t, pe, se⟩ := h
  obtain ⟨u, pu, su⟩ := h2
  refine ⟨_, pe_or pe pu, fun B F env σ H Q st p => ?_⟩
  show t σ H fun x H1 => ∃ c, x = .bl c ∧ if c = true then Q (.bl true) H1 else u σ H1 Q
  refine seqBE (PostE X.K ca W σ F H Q) se st p (fun _ _ h => h) (fun h => h) fun x F1 H1 p1 g1 => ⟨x, rfl, ?_⟩
  cases x with
  | false => rw [if_neg Bool.false_ne_true]; rw [if_neg Bool.false_ne_true] at p1; exact su B F1 env σ H1 Q (st.grow g1) (PostE.mono g1 p1)
  | true => rw [if_pos rfl]; rw [if_pos rfl] at p1; exact p1 _ _ _ g1 (.bl true)
theorem ve_not {f : VEnv → Rs RV} (h : VE ca W X a f) : VE ca W X (.UnaryOp .Not a pos) (vNot f) := by
  obtain ⟨t, pe, se⟩ := h
  refine ⟨_, pe_not pe, fun B F env σ H Q st p => ?_⟩
  show t σ H fun x H1 => ∃ c, x = .bl c ∧ Q (.bl (!c)) H1
  exact seqBE (PostE X.K ca W σ F H Q) se st p (fun _ _ h => h) (fun h => h) fun x F1 H1 p1 g1 => ⟨x, rfl, p1 _ _ _ g1 (.bl _)⟩
def vIf (t : VEnv → Rs Bool) (f g : VEnv → Rs RV) : VEnv → Rs RV := fun env => (t env).bind fun b => if b = true then f env else g env
theorem ve_ifExp {c : Expr} {tc : VEnv → Rs Bool} (hc : VT ca W X c tc) (ha : VE ca W X a fa) (hb : VE ca W X b fb) : VE ca W X (.IfExp c a b pos) (vIf tc fa fb) := by
  obtain ⟨t, pe, se⟩ := hc
  obtain ⟨ta, pa, sa⟩ := ha
  obtain ⟨tb, pb, sb⟩ := hb
  refine ⟨_, pe_ifExp pe pa pb, fun B F env σ H Q st p => ?_⟩
  show t σ H fun c H1 => if c = true then ta σ H1 Q else tb σ H1 Q
  refine seqT (PostE X.K ca W σ F H Q) se st p (fun _ _ h => h) (fun h => h) fun x F1 H1 p1 g1 => ?_
  cases x with
  | true => rw [if_pos rfl]; rw [if_pos rfl] at p1; exact sa B F1 env σ H1 Q (st.grow g1) (PostE.mono g1 p1)
  | false => rw [if_neg Bool.false_ne_true]; rw [if_neg Bool.false_ne_true] at p1; exact sb B F1 env σ H1 Q (st.grow g1) (PostE.mono g1 p1)

/-! ## calls -/
theorem snd_call {K : PySem.W.Frag} {r : List V → Hp → VK → Prop} {g : List RV → Rs RV} {t : TA} {f : VEnv → Rs (List RV)} (hr : CaS K ca r g) (sa : SndA K ca W t f) : SndE K ca W (tCB r t) (cA g f) := by
  intro B F env σ H Q st p
  show t σ H fun vs H1 => r vs H1 Q
  refine seqA (PostE K ca W σ F H Q) sa st p (fun _ _ h => h) (fun h => h) fun rs F1 H1 vs p1 g1 q1 => ?_
  exact hr W σ F H F1 H1 vs rs Q g1 q1 p1
theorem ve_callB {id : String} {x : Str} {p : Pos} {r : List V → Hp → VK → Prop} {g : List RV → Rs RV} {f : VEnv → Rs (List RV)} (hc : CallR X (.builtin id) r) (hr : CaS X.K ca r g) (hg : Gl X x) (hm : X.mg x = none) (hv : bootBuiltins x = some (.builtin id)) (ha : VA ca W X (e :: es) f) (hn : x ≠ "__name__" := by decide) (hdb : (x == ("__debug__" : Str)) = false := by decide)
    (he : starEach (e :: es) X.env = (false, eval e X.env) :: starEach es X.env := by rfl) (hpl : (backTo pos (starEach es X.env)).any (·.1) = false := by rfl) : VE ca W X (.Call (.Name x p) (e :: es) [] pos) (cA g f) := by
  obtain ⟨t, pa, sa⟩ := ha
  exact ⟨_, pe_callB hc hg hm hv pa hn hdb he hpl, snd_call hr sa⟩
theorem ve_callTy {T : String} {x : Str} {p : Pos} {r : List V → Hp → VK → Prop} {g : List RV → Rs RV} {f : VEnv → Rs (List RV)} (hc : CallR X (.type T) r) (hr : CaS X.K ca r g) (hg : Gl X x) (hm : X.mg x = none) (hv : bootBuiltins x = some (.type T)) (ha : VA ca W X (e :: es) f) (hn : x ≠ "__name__" := by decide) (hdb : (x == ("__debug__" : Str)) = false := by decide)
    (he : starEach (e :: es) X.env = (false, eval e X.env) :: starEach es X.env := by rfl) (hpl : (backTo pos (starEach es X.env)).any (·.1) = false := by rfl) : VE ca W X (.Call (.Name x p) (e :: es) [] pos) (cA g f) := by
  obtain ⟨t, pa, sa⟩ := ha
  exact ⟨_, pe_callTy hc hg hm hv pa hn hdb he hpl, snd_call hr sa⟩
end
end VL

namespace VL
open PySem PySem.Spec PyProof.Rows L2

/-! ## statements -/
inductive Out where
  | nx (env : VEnv) | rt (r : RV) | bk (env : VEnv) | ct (env : VEnv)
  | ex (c : Nat) (fs : List (Str × PyData)) (env : VEnv)
  | no
def Out.then : Out → (VEnv → Out) → Out
  | .nx env, f => f env
  | o, _ => o
@[simp] theorem Out.then_nx (env f) : (Out.nx env).then f = f env := rfl
@[simp] theorem Out.then_rt (r f) : (Out.rt r).then f = .rt r := rfl
@[simp] theorem Out.then_bk (r f) : (Out.bk r).then f = .bk r := rfl
@[simp] theorem Out.then_ct (r f) : (Out.ct r).then f = .ct r := rfl
@[simp] theorem Out.then_ex (c fs e f) : (Out.ex c fs e).then f = .ex c fs e := rfl
@[simp] theorem Out.then_no (f) : Out.no.then f = .no := rfl
def Rs.out {α : Type} (m : Rs α) (env : VEnv) (f : α → Out) : Out := match m with
  | .ok a => f a
  | .ex c fs => .ex c fs env
  | .no => .no
@[simp] theorem Rs.out_ok {α : Type} (a : α) (env f) : (Rs.ok a).out env f = f a := rfl
@[simp] theorem Rs.out_ex {α : Type} (c fs env) (f : α → Out) : (Rs.ex c fs : Rs α).out env f = .ex c fs env := rfl
@[simp] theorem Rs.out_no {α : Type} (env) (f : α → Out) : (Rs.no : Rs α).out env f = .no := rfl

section
variable (K : PySem.W.Frag) (ca : Nat → Addr) (W : WX) (B : Base) (F0 : Hp)
def PostS (D : Ends) : Out → Prop
  | .nx env => ∀ F σ H, Same F0 F → StOk K B F env σ H → D.nx σ H
  | .bk env => ∀ F σ H, Same F0 F → StOk K B F env σ H → D.bk σ H
  | .ct env => ∀ F σ H, Same F0 F → StOk K B F env σ H → D.ct σ H
  | .rt r => ∀ F H v, Grow B.F B.H F H → RVok K B.H F H v r → D.rt v H
  | .ex c fs env => ∀ F σ H cls dx, Same F0 F → StOk K B F env σ H → ExOk K ca F H cls dx c fs → W cls dx σ H
  | .no => False
end
theorem PostS.mono {K : PySem.W.Frag} {ca : Nat → Addr} {W : WX} {B : Base} {F0 F1 : Hp} {D : Ends} {o : Out} (e : Same F0 F1) (h : PostS K ca W B F0 D o) : PostS K ca W B F1 D o := by
  cases o with
  | nx env => exact fun F σ H s st => h F σ H (e.trans s) st
  | bk env => exact fun F σ H s st => h F σ H (e.trans s) st
  | ct env => exact fun F σ H s st => h F σ H (e.trans s) st
  | rt r => exact h
  | ex c fs env => exact fun F σ H cls dx s st => h F σ H cls dx (e.trans s) st
  | no => exact h
def SndS (K : PySem.W.Frag) (ca : Nat → Addr) (W : WX) (t : TS) (f : VEnv → Out) : Prop := ∀ B F env σ H D, StOk K B F env σ H → PostS K ca W B F D (f env) → t D σ H
structure VS (ca : Nat → Addr) (W : WX) (X : Cx) (st : Stmt) (f : VEnv → Out) : Prop where
  ex : ∃ t, PS X st t ∧ SndS X.K ca W t f
structure VSs (ca : Nat → Addr) (W : WX) (X : Cx) (st : List Stmt) (f : VEnv → Out) : Prop where
  ex : ∃ t, PSs X st t ∧ SndS X.K ca W t f

section
variable {K : PySem.W.Frag} {ca : Nat → Addr} {W : WX} {B : Base} {F H : Hp} {env : VEnv} {σ : L2.St}
theorem exOut {c : Nat} {fs : List (Str × PyData)} {D : Ends} (st : StOk K B F env σ H) (h : PostS K ca W B F D (.ex c fs env)) : PostX K ca W σ F H c fs :=
  fun F' H' cls dx g e => h F' σ H' cls dx g.ff (st.grow g) e
theorem outE {t : TE} {f : VEnv → Rs RV} {Q : VK} {D : Ends} {k : RV → Out} (s : SndE K ca W t f) (st : StOk K B F env σ H)
    (post : PostS K ca W B F D ((f env).out env k)) (h : ∀ r F1 H1 v, PostS K ca W B F1 D (k r) → Grow F H F1 H1 → RVok K H F1 H1 v r → Q v H1) : t σ H Q := by
  refine s B F env σ H Q st ?_
  cases e : f env with
  | ok r => rw [e] at post; exact fun F' H' v g q => h r F' H' v (PostS.mono g.ff post) g q
  | ex c fs => rw [e] at post; exact exOut st post
  | no => rw [e] at post; exact post
theorem outT {t : TT} {f : VEnv → Rs Bool} {Q : Bool → Hp → Prop} {D : Ends} {k : Bool → Out} (s : SndT K ca W t f) (st : StOk K B F env σ H)
    (post : PostS K ca W B F D ((f env).out env k)) (h : ∀ r F1 H1, PostS K ca W B F1 D (k r) → Grow F H F1 H1 → Q r H1) : t σ H Q := by
  refine s B F env σ H Q st ?_
  cases e : f env with
  | ok r => rw [e] at post; exact fun F' H' g => h r F' H' (PostS.mono g.ff post) g
  | ex c fs => rw [e] at post; exact exOut st post
  | no => rw [e] at post; exact post
/-- a slot gets a value of its own or plain data -/
theorem StOk.put (st : StOk K B F env σ H) {i : Nat} (hi : i < env.length) {v : V} {r : RV} (q : RVok K B.H F H v r) (hb : r.isB = false)
    (hd : r.own = true → ∀ (j : Nat) (r' : RV) (p : Addr), j ≠ i → env[j]? = some (some r') → r'.own = true → v = .ref p → σ[j]? ≠ some (some (.ref p))) : StOk K B F (env.set i (some r)) (σ.set i (some v)) H := by
  have hi' : i < σ.length := by rw [← st.len]; exact hi
  refine ⟨st.gr, by simp [st.len], fun j r1 e => ?_, fun j r1 p e o s => ?_, fun j k r1 r2 p jk e1 e2 o1 o2 s1 s2 => ?_⟩
  · by_cases h : i = j
    · subst h
      rw [List.getElem?_set_self hi] at e
      cases e
      exact ⟨v, by rw [List.getElem?_set_self hi'], q⟩
    · rw [List.getElem?_set_ne h] at e
      obtain ⟨w, e1, q1⟩ := st.sl j r1 e
      exact ⟨w, by rw [List.getElem?_set_ne h]; exact e1, q1⟩
  · by_cases h : i = j
    · subst h
      rw [List.getElem?_set_self hi] at e
      cases e
      rw [hb] at o; cases o
    · rw [List.getElem?_set_ne h] at e s
      exact st.bo j r1 p e o s
  · by_cases h1 : i = j
    · subst h1
      rw [List.getElem?_set_self hi] at e1
      rw [List.getElem?_set_self hi'] at s1
      rw [List.getElem?_set_ne jk] at e2 s2
      cases e1
      exact hd o1 k r2 p (Ne.symm jk) e2 o2 (Option.some.inj (Option.some.inj s1)) s2
    · rw [List.getElem?_set_ne h1] at e1 s1
      by_cases h2 : i = k
      · subst h2
        rw [List.getElem?_set_self hi] at e2
        rw [List.getElem?_set_self hi'] at s2
        cases e2
        exact hd o2 j r1 p (Ne.symm h1) e1 o1 (Option.some.inj (Option.some.inj s2)) s1
      · rw [List.getElem?_set_ne h2] at e2 s2
        exact st.dis j k r1 r2 p jk e1 e2 o1 o2 s1 s2
/-- a value that came out of an expression over this state -/
theorem StOk.putE {F1 H1 : Hp} (st : StOk K B F env σ H) (g : Grow F H F1 H1) {i : Nat} (hi : i < env.length) {v : V} {r : RV} (q : RVok K H F1 H1 v r) (hb : r.isB = false) : StOk K B F1 (env.set i (some r)) (σ.set i (some v)) H1 := by
  refine (st.grow g).put hi (q.older st.gr.hh) hb fun o j r' p ji e o' ev s => ?_
  obtain ⟨w, e1, q1⟩ := st.sl j r' e
  rw [s] at e1
  cases e1
  have hp : ∃ ob, H p = some ob := by
    cases r' with
    | ol xs => obtain ⟨a, vs, z, _, _, hp, _⟩ := q1; cases z; exact ⟨_, hp⟩
    | od xs => obtain ⟨a, vs, z, _, _, hp, _⟩ := q1; cases z; exact ⟨_, hp⟩
    | ot xs => obtain ⟨a, vs, z, _, _, hp, _⟩ := q1; cases z; exact ⟨_, hp⟩
    | _ => cases o'
  obtain ⟨ob, hp⟩ := hp
  have hn : H p = none := by
    cases r with
    | ol xs => obtain ⟨a, vs, z, n, _⟩ := q; rw [ev] at z; cases z; exact n
    | od xs => obtain ⟨a, vs, z, n, _⟩ := q; rw [ev] at z; cases z; exact n
    | ot xs => obtain ⟨a, vs, z, n, _⟩ := q; rw [ev] at z; cases z; exact n
    | _ => cases o
  rw [hn] at hp; cases hp
/-- a slot forgotten -/
theorem StOk.drop (st : StOk K B F env σ H) (i : Nat) : StOk K B F (env.set i none) (σ.set i none) H := by
  refine ⟨st.gr, by simp [st.len], fun j r1 e => ?_, fun j r1 p e o s => ?_, fun j k r1 r2 p jk e1 e2 o1 o2 s1 s2 => ?_⟩
  · by_cases h : i = j
    · subst h
      by_cases hi : i < env.length
      · rw [List.getElem?_set_self hi] at e; cases e
      · rw [List.getElem?_eq_none (by simpa using hi)] at e; cases e
    · rw [List.getElem?_set_ne h] at e
      obtain ⟨w, e1, q1⟩ := st.sl j r1 e
      exact ⟨w, by rw [List.getElem?_set_ne h]; exact e1, q1⟩
  · by_cases h : i = j
    · subst h
      by_cases hi : i < env.length
      · rw [List.getElem?_set_self hi] at e; cases e
      · rw [List.getElem?_eq_none (by simpa using hi)] at e; cases e
    · rw [List.getElem?_set_ne h] at e s
      exact st.bo j r1 p e o s
  · by_cases h1 : i = j
    · subst h1
      by_cases hi : i < env.length
      · rw [List.getElem?_set_self hi] at e1; cases e1
      · rw [List.getElem?_eq_none (by simpa using hi)] at e1; cases e1
    · by_cases h2 : i = k
      · subst h2
        by_cases hi : i < env.length
        · rw [List.getElem?_set_self hi] at e2; cases e2
        · rw [List.getElem?_eq_none (by simpa using hi)] at e2; cases e2
      · rw [List.getElem?_set_ne h1] at e1 s1
        rw [List.getElem?_set_ne h2] at e2 s2
        exact st.dis j k r1 r2 p jk e1 e2 o1 o2 s1 s2
end

/-! ### freezing a slot's list -/
def fzE (i : Nat) (env : VEnv) : VEnv := match env[i]? with
  | some (some (.ol xs)) => env.set i (some (.d (.list xs)))
  | _ => env
theorem StOk.fz {K : PySem.W.Frag} {B : Base} {F H : Hp} {env : VEnv} {σ : L2.St} (st : StOk K B F env σ H) (i : Nat) : ∃ F', Same F F' ∧ StOk K B F' (fzE i env) σ H := by
  unfold fzE
  split
  · rename_i xs e
    obtain ⟨v, e1, p, vs, rfl, n0, f, hp, q⟩ := st.sl i _ e
    have hi : i < env.length := (List.getElem?_eq_some_iff.mp e).1
    have s1 : Same F (upd F p (.lst vs)) := fun b u k => by rw [upd_ne (ne_of_none k f)]; exact k
    refine ⟨upd F p (.lst vs), s1, st.gr.freeze n0 f hp, by simpa using st.len, fun j r e2 => ?_, fun j r a e2 o z => ?_, fun j k r1 r2 a jk q1 q2 o1 o2 z1 z2 => ?_⟩
    · by_cases h : i = j
      · subst h
        rw [List.getElem?_set_self hi] at e2
        cases e2
        exact ⟨_, e1, .lst upd_same (DqA.mono s1 _ _ q)⟩
      · rw [List.getElem?_set_ne h] at e2
        obtain ⟨w, e3, q3⟩ := st.sl j r e2
        refine ⟨w, e3, ?_⟩
        have ne : ∀ a, r.own = true → w = .ref a → a ≠ p := fun a o z y => by
          subst y; subst z
          exact st.dis i j (.ol xs) r a h e e2 rfl o e1 e3
        cases r with
        | d x => exact Dq.mono s1 x w q3
        | ol ys => obtain ⟨a, ws, z, n, f2, h2, q4⟩ := q3; exact ⟨a, ws, z, n, by rw [upd_ne (ne a rfl z)]; exact f2, h2, DqA.mono s1 _ _ q4⟩
        | od ys => obtain ⟨a, ws, z, n, f2, h2, q4⟩ := q3; exact ⟨a, ws, z, n, by rw [upd_ne (ne a rfl z)]; exact f2, h2, q4.mono s1⟩
        | ot ys => obtain ⟨a, ws, z, n, f2, h2, q4⟩ := q3; exact ⟨a, ws, z, n, by rw [upd_ne (ne a rfl z)]; exact f2, h2, q4.mono s1⟩
        | sc ns => obtain ⟨a, z, q4⟩ := q3; exact ⟨a, z, s1.seq q4⟩
        | bl ys => obtain ⟨a, ws, z, h2, q4⟩ := q3; exact ⟨a, ws, z, h2, DqA.mono s1 _ _ q4⟩
        | bd ys => obtain ⟨a, ws, z, h2, q4⟩ := q3; exact ⟨a, ws, z, h2, q4.mono s1⟩
        | bt ys => obtain ⟨a, ws, z, h2, q4⟩ := q3; exact ⟨a, ws, z, h2, q4.mono s1⟩
        | xo a dd c fs => obtain ⟨z, ws, h2, q4⟩ := q3; exact ⟨z, ws, h2, q4.mono s1⟩
    · by_cases h : i = j
      · subst h; rw [List.getElem?_set_self hi] at e2; cases e2; cases o
      · rw [List.getElem?_set_ne h] at e2
        exact st.bo j r a e2 o z
    · by_cases h1 : i = j
      · subst h1; rw [List.getElem?_set_self hi] at q1; cases q1; cases o1
      · by_cases h2 : i = k
        · subst h2; rw [List.getElem?_set_self hi] at q2; cases q2; cases o2
        · rw [List.getElem?_set_ne h1] at q1
          rw [List.getElem?_set_ne h2] at q2
          exact st.dis j k r1 r2 a jk q1 q2 o1 o2 z1 z2
  · exact ⟨F, Same.refl _, st⟩
end VL

namespace VL
open PySem PySem.Spec PyProof.Rows L2

section
variable {ca : Nat → Addr} {W : WX} {X : Cx} {a b e : Expr} {es : List Expr} {fa fb : VEnv → Rs RV} {pos : Pos} {st : Stmt} {rest : List Stmt} {f g : VEnv → Out}
/-! ### blocks -/
def sNil : VEnv → Out := fun env => .nx env
def sSeq (f g : VEnv → Out) : VEnv → Out := fun env => (f env).then g
theorem vss_nil : VSs ca W X [] sNil := ⟨_, pss_nil, fun _ _ _ _ _ _ st p => p _ _ _ (Same.refl _) st⟩
theorem vss_cons (h1 : VS ca W X st f) (h2 : VSs ca W X rest g) : VSs ca W X (st :: rest) (sSeq f g) := by
  obtain ⟨t, p1, s1⟩ := h1
  obtain ⟨u, p2, s2⟩ := h2
  refine ⟨_, pss_cons p1 p2, fun B F env σ H D st p => ?_⟩
  show t { D with nx := u D } σ H
  refine s1 B F env σ H _ st ?_
  unfold sSeq at p
  cases e : f env with
  | nx env' => rw [e] at p; exact fun F' σ' H' s st' => s2 B F' env' σ' H' D st' (PostS.mono s p)
  | bk env' => rw [e] at p; exact p
  | ct env' => rw [e] at p; exact p
  | rt r => rw [e] at p; exact p
  | ex c fs env' => rw [e] at p; exact p
  | no => rw [e] at p; exact p
theorem vss_one (h1 : VS ca W X st f) : VSs ca W X [st] f := by
  obtain ⟨t, p1, s1⟩ := h1
  exact ⟨_, pss_one p1, s1⟩
def sFz (i : Nat) (f : VEnv → Out) : VEnv → Out := fun env => f (fzE i env)
theorem vs_fz (i : Nat) (h : VS ca W X st f) : VS ca W X st (sFz i f) := by
  obtain ⟨t, p1, s1⟩ := h
  refine ⟨t, p1, fun B F env σ H D st p => ?_⟩
  obtain ⟨F', s, st'⟩ := st.fz i
  exact s1 B F' (fzE i env) σ H D st' (PostS.mono s p)
/-! ### small statements -/
def sBk : VEnv → Out := fun env => .bk env
def sCt : VEnv → Out := fun env => .ct env
theorem vs_pass : VS ca W X (.Pass pos) sNil := ⟨_, ps_pass, fun _ _ _ _ _ _ st p => p _ _ _ (Same.refl _) st⟩
theorem vs_break : VS ca W X (.Break pos) sBk := ⟨_, ps_break, fun _ _ _ _ _ _ st p => p _ _ _ (Same.refl _) st⟩
theorem vs_continue : VS ca W X (.Continue pos) sCt := ⟨_, ps_continue, fun _ _ _ _ _ _ st p => p _ _ _ (Same.refl _) st⟩
/-- no borrowed thing is handed on -/
def RV.nb : RV → Rs RV
  | .bl _ | .bd _ | .bt _ => .no
  | r => .ok r
def sRet (fe : VEnv → Rs RV) : VEnv → Out := fun env => (fe env).out env fun r => (r.nb).out env .rt
theorem vs_ret (he : VE ca W X e fa) : VS ca W X (.Return (some e) pos) (sRet fa) := by
  obtain ⟨t, pe, se⟩ := he
  refine ⟨_, ps_ret pe, fun B F env σ H D st p => ?_⟩
  refine outE (t := t) (Q := D.rt) se st p fun r F1 H1 v p1 g q => ?_
  cases r with
  | bl _ => exact p1.elim
  | bd _ => exact p1.elim
  | bt _ => exact p1.elim
  | _ => exact p1 F1 H1 v (st.gr.trans g) (q.older st.gr.hh)
/-- return x, x a list or dict of the def's own -/
def sRetV (i : Nat) : VEnv → Out := fun env => match env[i]? with
  | some (some r) => (r.nb).out env .rt
  | _ => .no
theorem vs_retv (i : Nat) {x : Str} {p' : Pos} (hN : X.N[i]? = some x := by rfl) (hv : Vis X.env.scope x := by first | exact Or.inl rfl | exact Or.inr (Or.inl rfl) | exact Or.inr (Or.inr rfl)) (hd : (x == ("__debug__" : Str)) = false := by decide)
    (hcd : (x == ("__classdict__" : Str)) = false := by decide) : VS ca W X (.Return (some (.Name x p')) pos) (sRetV i) := by
  refine ⟨_, ps_ret (pe_var hN hv hd hcd), fun B F env σ H D st p => ?_⟩
  unfold sRetV at p
  split at p
  · rename_i r e
    obtain ⟨v, e1, h⟩ := st.sl i r e
    refine ⟨v, e1, ?_⟩
    cases r with
    | bl _ => exact p.elim
    | bd _ => exact p.elim
    | bt _ => exact p.elim
    | _ => exact p F H v st.gr h
  · exact p.elim
def sRetN : VEnv → Out := fun _ => .rt (.d .none)
theorem vs_retN : VS ca W X (.Return none pos) sRetN := ⟨_, ps_retN, fun _ _ _ _ _ _ st p => p _ _ _ st.gr .non⟩
def sDrop (fe : VEnv → Rs RV) : VEnv → Out := fun env => (fe env).out env fun _ => .nx env
theorem vs_expr (he : VE ca W X e fa) (hs : swapsWith e none pos.line X.env = pure false := by rfl) : VS ca W X (.Expr e pos) (sDrop fa) := by
  obtain ⟨t, pe, se⟩ := he
  refine ⟨_, ps_expr pe hs, fun B F env σ H D st p => ?_⟩
  show t σ H fun _ H1 => D.nx σ H1
  exact outE se st p fun r F1 H1 v p1 g q => p1 F1 σ H1 (Same.refl _) (st.grow g)
/-- a name gets a value -/
def putS (i : Nat) (r : RV) (env : VEnv) : Out := (r.nb).out env fun r => if i < env.length then .nx (env.set i (some r)) else .no
def sSet (i : Nat) (fe : VEnv → Rs RV) : VEnv → Out := fun env => (fe env).out env fun r => putS i r env
theorem snd_put {K : PySem.W.Frag} {B : Base} {F H F1 H1 : Hp} {env : VEnv} {σ : L2.St} {D : Ends} {i : Nat} {r : RV} {v : V} (st : StOk K B F env σ H) (g : Grow F H F1 H1) (q : RVok K H F1 H1 v r) (p : PostS K ca W B F1 D (putS i r env)) : D.nx (σ.set i (some v)) H1 := by
  unfold putS at p
  have go : ∀ r' : RV, r.nb = .ok r' → r' = r := fun r' e => by cases r <;> cases e <;> rfl
  cases e : r.nb with
  | ok r' =>
    rw [e] at p
    cases go r' e
    simp only [Rs.out_ok] at p
    split at p
    · rename_i hi
      exact p F1 _ H1 (Same.refl _) (st.putE g hi q (by cases r <;> first | rfl | cases e))
    · exact p.elim
  | ex c fs => exact absurd e (by cases r <;> simp [RV.nb])
  | no => rw [e] at p; exact p.elim
theorem vs_set {i : Nat} {x : Str} {pos' : Pos} (hN : X.N.Nodup) (hi : X.N[i]? = some x) (hx : Loc X.env.scope x) (he : VE ca W X e fa) (hs : swapsWith e (some (.Name x pos')) pos.line X.env = pure false := by rfl) (hf : X.fn x = true ∨ X.env.scope.names.lookup x = some .local := by first | exact .inl rfl | exact .inr rfl | assumption) :
    VS ca W X (.Assign [.Name x pos'] e pos) (sSet i fa) := by
  obtain ⟨t, pe, se⟩ := he
  refine ⟨_, ps_set hN hi hx pe hs hf, fun B F env σ H D st p => ?_⟩
  show t σ H fun x H1 => D.nx (σ.set i (some x)) H1
  exact outE se st p fun r F1 H1 v p1 g q => snd_put st g q p1
def sIf (c : VEnv → Rs Bool) (f g : VEnv → Out) : VEnv → Out := fun env => (c env).out env fun b => if b = true then f env else g env
theorem vs_if {c : Expr} {ss tt : List Stmt} {tc : VEnv → Rs Bool} (hc : VT ca W X c tc) (ha : VSs ca W X ss f) (hb : VSs ca W X tt g) : VS ca W X (.If c ss tt pos) (sIf tc f g) := by
  obtain ⟨t, pe, se⟩ := hc
  obtain ⟨ta, pa, sa⟩ := ha
  obtain ⟨tb, pb, sb⟩ := hb
  refine ⟨_, ps_if pe pa pb, fun B F env σ H D st p => ?_⟩
  show t σ H fun b H1 => if b = true then ta D σ H1 else tb D σ H1
  refine outT se st p fun b F1 H1 p1 g => ?_
  cases b with
  | true => rw [if_pos rfl]; rw [if_pos rfl] at p1; exact sa B F1 env σ H1 D (st.grow g) p1
  | false => rw [if_neg Bool.false_ne_true]; rw [if_neg Bool.false_ne_true] at p1; exact sb B F1 env σ H1 D (st.grow g) p1

/-! ### while -/
def loopW (c : VEnv → Rs Bool) (f : VEnv → Out) : Nat → VEnv → Out
  | 0, _ => .no
  | n + 1, env => (c env).out env fun b => if b = true then
      (match f env with
        | .nx e => loopW c f n e
        | .ct e => loopW c f n e
        | .bk e => .nx e
        | o => o) else .nx env
def sWhile (n : Nat) (c : VEnv → Rs Bool) (f : VEnv → Out) : VEnv → Out := loopW c f n
theorem vs_while {c : Expr} {body : List Stmt} {tc : VEnv → Rs Bool} (n : Nat) (hp : PassesOwn (model X.prog X.w) X.A X.env X.xe) (hc : VT ca W X c tc) (hb : VSs ca W X body f) : VS ca W X (.While c body [] pos) (sWhile n tc f) := by
  obtain ⟨t, pe, se⟩ := hc
  obtain ⟨tb, pb, sb⟩ := hb
  refine ⟨_, ps_while hp pe pb, fun B F env σ H D st p => ?_⟩
  refine ⟨fun m σ H => ∃ F' env', Same F F' ∧ StOk X.K B F' env' σ H ∧ PostS X.K ca W B F' D (loopW tc f m env'), ⟨n, F, env, Same.refl _, st, p⟩, ?_⟩
  rintro m σ1 H1 ⟨F1, env1, s1, st1, p1⟩
  cases m with
  | zero => exact p1.elim
  | succ m =>
    unfold loopW at p1
    refine outT se st1 p1 fun b F2 H2 p2 g => ?_
    cases b with
    | false => rw [if_neg Bool.false_ne_true]; rw [if_neg Bool.false_ne_true] at p2; exact p2 F2 σ1 H2 (Same.refl _) (st1.grow g)
    | true =>
      rw [if_pos rfl]; rw [if_pos rfl] at p2
      refine ⟨fun σ' H' => ∃ F' env', Same F F' ∧ StOk X.K B F' env' σ' H' ∧ PostS X.K ca W B F' D (loopW tc f m env'), fun σ' H' z => ⟨m, Nat.lt_succ_self m, z⟩, ?_⟩
      refine sb B F2 env1 σ1 H2 _ (st1.grow g) ?_
      cases e : f env1 with
      | nx env' => rw [e] at p2; exact fun F' σ' H' s st' => ⟨F', env', (s1.trans g.ff).trans s, st', PostS.mono s p2⟩
      | ct env' => rw [e] at p2; exact fun F' σ' H' s st' => ⟨F', env', (s1.trans g.ff).trans s, st', PostS.mono s p2⟩
      | bk env' => rw [e] at p2; exact p2
      | rt r => rw [e] at p2; exact p2
      | ex c fs env' => rw [e] at p2; exact p2
      | no => rw [e] at p2; exact p2

/-! ### what is walked -/
structure JWalk (J : It) (G : Hp) (vs : List V) : Prop where
  go : ∀ i H, Same G H → i < vs.length → J.go i H
  yld : ∀ i H x H', Same G H → J.yld i H x H' → i < vs.length → H' = H ∧ vs[i]? = some x
  stop : ∀ H, Same G H → J.stop vs.length H
theorem jw_list {K : PySem.W.Frag} {G : Hp} {a : Addr} {vs : List V} (h : SqL K G a vs) : JWalk (Itl K a) G vs where
  go := fun i H s hi => ⟨vs, vs[i], s.seq h, by simp [hi]⟩
  yld := fun i H x H' s y hi => ⟨y.1, y.2 vs (s.seq h)⟩
  stop := fun H s => ⟨vs, s.seq h, Nat.le_refl _⟩
theorem jw_tup {K : PySem.W.Frag} {G : Hp} {a : Addr} {vs : List V} (h : SqT K G a vs) : JWalk (Itt K a) G vs where
  go := fun i H s hi => ⟨vs, vs[i], same_seqT s h, by simp [hi]⟩
  yld := fun i H x H' s y hi => ⟨y.1, y.2 vs (same_seqT s h)⟩
  stop := fun H s => ⟨vs, same_seqT s h, Nat.le_refl _⟩
def rngL (lo : Int) (n : Nat) : List PyData := (List.range n).map fun i : Nat => .int (lo + (i : Int))
theorem jw_rng {G : Hp} (lo : Int) (n : Nat) : JWalk (Itr lo n) G ((List.range n).map fun i : Nat => V.int (lo + (i : Int))) where
  go := fun i H s hi => by
    have hi' : i < n := by simpa using hi
    exact hi'
  yld := fun i H x H' s y hi => by
    have hi' : i < n := by simpa using hi
    refine ⟨y.1, ?_⟩
    rw [y.2, List.getElem?_map, List.getElem?_range hi']
    rfl
  stop := fun H s => by show n ≤ _; simp
def PostI (K : PySem.W.Frag) (ca : Nat → Addr) (W : WX) (σ : L2.St) (F H : Hp) (R : It → Hp → Prop) : Rs (List PyData) → Prop
  | .ok xs => ∀ J F' H' vs, Grow F H F' H' → DqA K F' vs xs → JWalk J F' vs → R J H'
  | .ex c fs => PostX K ca W σ F H c fs
  | .no => False
def SndI (K : PySem.W.Frag) (ca : Nat → Addr) (W : WX) (t : TI) (f : VEnv → Rs (List PyData)) : Prop := ∀ B F env σ H R, StOk K B F env σ H → PostI K ca W σ F H R (f env) → t σ H R
structure VI (ca : Nat → Addr) (W : WX) (X : Cx) (tg iter : Expr) (f : VEnv → Rs (List PyData)) : Prop where
  ex : ∃ t, PI X tg iter t ∧ SndI X.K ca W t f
/-- for a comprehension: a borrowed list, too -/
def PostJ (K : PySem.W.Frag) (ca : Nat → Addr) (W : WX) (σ : L2.St) (F H : Hp) (R : It → Hp → Prop) : Rs (List PyData) → Prop
  | .ok xs => ∀ J F' H' vs, Grow F H F' H' → DqA K F' vs xs → JWalk J H' vs → R J H'
  | .ex c fs => PostX K ca W σ F H c fs
  | .no => False
def SndJ (K : PySem.W.Frag) (ca : Nat → Addr) (W : WX) (t : TI) (f : VEnv → Rs (List PyData)) : Prop := ∀ B F env σ H R, StOk K B F env σ H → PostJ K ca W σ F H R (f env) → t σ H R
structure VJ (ca : Nat → Addr) (W : WX) (X : Cx) (tg iter : Expr) (f : VEnv → Rs (List PyData)) : Prop where
  ex : ∃ t, PI X tg iter t ∧ SndJ X.K ca W t f
theorem JWalk.up {J : It} {G G' : Hp} {vs : List V} (h : JWalk J G vs) (s : Same G G') : JWalk J G' vs :=
  ⟨fun i H q => h.go i H (s.trans q), fun i H x H' q => h.yld i H x H' (s.trans q), fun H q => h.stop H (s.trans q)⟩
theorem VI.vj {tg iter : Expr} {f : VEnv → Rs (List PyData)} (h : VI ca W X tg iter f) : VJ ca W X tg iter f := by
  obtain ⟨t, p, s⟩ := h
  refine ⟨t, p, fun B F env σ H R st q => s B F env σ H R st ?_⟩
  cases e : f env with
  | ok xs => rw [e] at q; exact fun J F' H' vs g d j => q J F' H' vs g d (j.up g.cfg.sub)
  | ex c fs => rw [e] at q; exact q
  | no => rw [e] at q; exact q
def gL : RV → Rs (List PyData)
  | .d (.list xs) => .ok xs
  | .ol xs => .ok xs
  | .sc ns => .ok (ns.map .int)
  | _ => .no
def gT : RV → Rs (List PyData)
  | .d (.tuple xs) => .ok xs
  | _ => .no
def gLb : RV → Rs (List PyData)
  | .bl xs => .ok xs
  | r => gL r
def iL (fe : VEnv → Rs RV) : VEnv → Rs (List PyData) := fun env => (fe env).bind gL
def iT (fe : VEnv → Rs RV) : VEnv → Rs (List PyData) := fun env => (fe env).bind gT
def iLb (fe : VEnv → Rs RV) : VEnv → Rs (List PyData) := fun env => (fe env).bind gLb
theorem vi_list {tg : Expr} (h : VE ca W X e fa) : VI ca W X tg e (iL fa) := by
  obtain ⟨t, p, s⟩ := h
  refine ⟨_, pi_list p, fun B F env σ H R st q => ?_⟩
  show t σ H fun x H1 => ∃ a, x = .ref a ∧ (∃ xs, SqL X.K H1 a xs) ∧ R (Itl X.K a) H1
  refine seqE (PostI X.K ca W σ F H R) s st q (fun _ _ h => h) (fun h => h) fun r F1 H1 v p1 g1 q1 => ?_
  cases r with
  | d x =>
    cases x with
    | list xs =>
      cases q1 with
      | lst h1 h2 => exact ⟨_, rfl, ⟨_, SqL.of (g1.cfg.sub _ _ h1)⟩, p1 _ F1 H1 _ g1 h2 (jw_list (SqL.of h1))⟩
    | _ => exact p1.elim
  | ol xs =>
    obtain ⟨p, vs, rfl, n0, f, hp, q2⟩ := q1
    have g2 := g1.freeze n0 f hp
    have s2 : Same F1 (upd F1 p (.lst vs)) := fun b u k => by rw [upd_ne (ne_of_none k f)]; exact k
    exact ⟨p, rfl, ⟨_, SqL.of hp⟩, p1 _ _ H1 vs g2 (DqA.mono s2 _ _ q2) (jw_list (SqL.of upd_same))⟩
  | sc ns =>
    obtain ⟨a, rfl, q2⟩ := q1
    exact ⟨a, rfl, ⟨_, g1.cfg.sub.seq q2⟩, p1 _ F1 H1 _ g1 (DqA.of_ints ns) (jw_list q2)⟩
  | _ => exact p1.elim
theorem vi_tup {tg : Expr} (h : VE ca W X e fa) : VI ca W X tg e (iT fa) := by
  obtain ⟨t, p, s⟩ := h
  refine ⟨_, pi_tup p, fun B F env σ H R st q => ?_⟩
  show t σ H fun x H1 => ∃ a, x = .ref a ∧ (∃ xs, SqT X.K H1 a xs) ∧ R (Itt X.K a) H1
  refine seqE (PostI X.K ca W σ F H R) s st q (fun _ _ h => h) (fun h => h) fun r F1 H1 v p1 g1 q1 => ?_
  cases r with
  | d x =>
    cases x with
    | tuple xs =>
      cases q1 with
      | tup h1 h2 => exact ⟨_, rfl, ⟨_, same_seqT g1.cfg.sub h1⟩, p1 _ F1 H1 _ g1 h2 (jw_tup h1)⟩
    | _ => exact p1.elim
  | _ => exact p1.elim
theorem vj_list {tg : Expr} (h : VE ca W X e fa) : VJ ca W X tg e (iLb fa) := by
  obtain ⟨t, p, s⟩ := h
  refine ⟨_, pi_list p, fun B F env σ H R st q => ?_⟩
  show t σ H fun x H1 => ∃ a, x = .ref a ∧ (∃ xs, SqL X.K H1 a xs) ∧ R (Itl X.K a) H1
  refine seqE (PostJ X.K ca W σ F H R) s st q (fun _ _ h => h) (fun h => h) fun r F1 H1 v p1 g1 q1 => ?_
  cases r with
  | d x =>
    cases x with
    | list xs =>
      cases q1 with
      | lst h1 h2 => exact ⟨_, rfl, ⟨_, SqL.of (g1.cfg.sub _ _ h1)⟩, p1 _ F1 H1 _ g1 h2 (jw_list (SqL.of (g1.cfg.sub _ _ h1)))⟩
    | _ => exact p1.elim
  | ol xs =>
    obtain ⟨p, vs, rfl, n0, f, hp, q2⟩ := q1
    exact ⟨p, rfl, ⟨_, SqL.of hp⟩, p1 _ _ H1 vs g1 q2 (jw_list (SqL.of hp))⟩
  | bl xs =>
    obtain ⟨p, vs, rfl, hp, q2⟩ := q1
    exact ⟨p, rfl, ⟨_, SqL.of hp⟩, p1 _ _ H1 vs g1 q2 (jw_list (SqL.of hp))⟩
  | sc ns =>
    obtain ⟨a, rfl, q2⟩ := q1
    exact ⟨a, rfl, ⟨_, g1.cfg.sub.seq q2⟩, p1 _ F1 H1 _ g1 (DqA.of_ints ns) (jw_list (g1.cfg.sub.seq q2))⟩
  | _ => exact p1.elim
theorem vj_tup {tg : Expr} (h : VE ca W X e fa) : VJ ca W X tg e (iT fa) := (vi_tup h).vj
theorem DqA.rng {K : PySem.W.Frag} {F : Hp} (lo : Int) (n : Nat) : DqA K F ((List.range n).map fun i : Nat => V.int (lo + (i : Int))) (rngL lo n) := by
  have := DqA.of_ints (K := K) (F := F) ((List.range n).map fun i : Nat => lo + (i : Int))
  rw [List.map_map, List.map_map] at this
  exact this
def gR1 : List RV → Rs (List PyData)
  | [.d (.int j)] => if j.natAbs ≤ 1000000 then .ok (rngL 0 j.toNat) else .no
  | _ => .no
def gR2 : List RV → Rs (List PyData)
  | [.d (.int i), .d (.int j)] => if i.natAbs ≤ 1000000 ∧ j.natAbs ≤ 1000000 then .ok (rngL i (j - i).toNat) else .no
  | _ => .no
def iR (g : List RV → Rs (List PyData)) (fe : VEnv → Rs (List RV)) : VEnv → Rs (List PyData) := fun env => (fe env).bind g
theorem vi_range1 {tg : Expr} {p pos : Pos} {f : VEnv → Rs (List RV)} (hg : Gl X "range") (hm : X.mg "range" = none) (ha : VA ca W X [a] f) (hs : starEach [a] X.env = [(false, eval a X.env)] := by rfl) : VI ca W X tg (.Call (.Name "range" p) [a] [] pos) (iR gR1 f) := by
  obtain ⟨t, pa, sa⟩ := ha
  refine ⟨_, pi_range1 hg hm pa hs, fun B F env σ H R st q => ?_⟩
  show t σ H fun vs H1 => ∃ j : Int, vs = [.int j] ∧ -(2 ^ 62) ≤ j ∧ j < 2 ^ 62 ∧ R (Itr 0 j.toNat) H1
  refine seqA (PostI X.K ca W σ F H R) sa st q (fun _ _ h => h) (fun h => h) fun rs F1 H1 vs p1 g1 q1 => ?_
  unfold gR1 at p1
  split at p1
  · rename_i j
    split at p1
    · rename_i hj
      cases q1 with
      | cons h1 h2 =>
        cases h2
        cases h1
        exact ⟨j, rfl, by omega, by omega, p1 _ F1 H1 _ g1 (DqA.rng 0 j.toNat) (jw_rng 0 j.toNat)⟩
    · exact p1.elim
  · exact p1.elim
theorem vi_range2 {tg : Expr} {p pos : Pos} {f : VEnv → Rs (List RV)} (hg : Gl X "range") (hm : X.mg "range" = none) (ha : VA ca W X [a, b] f) (hs : starEach [a, b] X.env = [(false, eval a X.env), (false, eval b X.env)] := by rfl) (hs2 : starEach [b] X.env = [(false, eval b X.env)] := by rfl) : VI ca W X tg (.Call (.Name "range" p) [a, b] [] pos) (iR gR2 f) := by
  obtain ⟨t, pa, sa⟩ := ha
  refine ⟨_, pi_range2 hg hm pa hs hs2, fun B F env σ H R st q => ?_⟩
  show t σ H fun vs H1 => ∃ i j : Int, vs = [.int i, .int j] ∧ (-(2 ^ 62) ≤ i ∧ i < 2 ^ 62 ∧ -(2 ^ 62) ≤ j ∧ j < 2 ^ 62) ∧ R (Itr i (j - i).toNat) H1
  refine seqA (PostI X.K ca W σ F H R) sa st q (fun _ _ h => h) (fun h => h) fun rs F1 H1 vs p1 g1 q1 => ?_
  unfold gR2 at p1
  split at p1
  · rename_i i j
    split at p1
    · rename_i hj
      cases q1 with
      | cons h1 h2 =>
        cases h2 with
        | cons h3 h4 =>
          cases h4
          cases h1
          cases h3
          exact ⟨i, j, rfl, by omega, p1 _ F1 H1 _ g1 (DqA.rng i _) (jw_rng i _)⟩
    · exact p1.elim
  · exact p1.elim

/-! ### targets -/
inductive Tg where
  | nm (i : Nat) | tp (is : List Nat)
def tgEs : List Nat → List PyData → VEnv → Option VEnv
  | [], [], env => some env
  | i :: is, x :: xs, env => if i < env.length then tgEs is xs (env.set i (some (.d x))) else none
  | _, _, _ => none
def tgE : Tg → PyData → VEnv → Option VEnv
  | .nm i, x, env => if i < env.length then some (env.set i (some (.d x))) else none
  | .tp is, .tuple xs, env => tgEs is xs env
  | .tp _, _, _ => none
def gNms : List Nat → TGs
  | [] => gNil
  | i :: is => gCons (gName i) (gNms is)
def tgT (K : PySem.W.Frag) : Tg → TG
  | .nm i => gName i
  | .tp is => gTup K is.length (gNms is)
def setAll : List Nat → List V → L2.St → L2.St
  | i :: is, v :: vs, σ => setAll is vs (σ.set i (some v))
  | _, _, σ => σ
theorem StOk.putD {K : PySem.W.Frag} {B : Base} {F H : Hp} {env : VEnv} {σ : L2.St} (st : StOk K B F env σ H) {i : Nat} (hi : i < env.length) {v : V} {x : PyData} (q : Dq K F v x) : StOk K B F (env.set i (some (.d x))) (σ.set i (some v)) H :=
  st.put hi (r := .d x) q rfl fun o => by cases o
theorem snd_tgs {K : PySem.W.Frag} {B : Base} {F H : Hp} : ∀ {is : List Nat} {xs : List PyData} {vs : List V} {env env' : VEnv} {σ : L2.St} {Q : L2.St → Hp → Prop}, StOk K B F env σ H → DqA K F vs xs → tgEs is xs env = some env' → (StOk K B F env' (setAll is vs σ) H → Q (setAll is vs σ) H) → gNms is vs σ H Q
  | [], [], _, env, env', σ, Q, st, q, e, h => by cases q; cases e; exact ⟨rfl, h st⟩
  | [], _ :: _, _, env, env', σ, Q, st, q, e, h => by cases e
  | i :: is, [], _, env, env', σ, Q, st, q, e, h => by cases e
  | i :: is, x :: xs, _, env, env', σ, Q, st, q, e, h => by
    cases q with
    | cons h1 h2 =>
      rename_i v vs
      unfold tgEs at e
      split at e
      · rename_i hi
        exact ⟨v, vs, rfl, snd_tgs (st.putD hi h1) h2 e h⟩
      · cases e
def tgIx : Tg → List Nat
  | .nm i => [i]
  | .tp is => is
def tgSt (tg : Tg) (v : V) (vs : List V) (σ : L2.St) : L2.St := match tg with
  | .nm i => σ.set i (some v)
  | .tp is => setAll is vs σ
theorem snd_tg {K : PySem.W.Frag} {B : Base} {F H : Hp} {tg : Tg} {x : PyData} {v : V} {env env' : VEnv} {σ : L2.St} {Q : L2.St → Hp → Prop} (st : StOk K B F env σ H) (q : Dq K F v x) (e : tgE tg x env = some env') (h : ∀ vs, StOk K B F env' (tgSt tg v vs σ) H → Q (tgSt tg v vs σ) H) : tgT K tg v σ H Q := by
  cases tg with
  | nm i =>
    by_cases hi : i < env.length
    · have e' : some (env.set i (some (.d x))) = some env' := by simpa [tgE, hi] using e
      cases e'
      exact h [] (st.putD hi q)
    · simp [tgE, hi] at e
  | tp is =>
    cases x with
    | tuple xs =>
      cases q with
      | tup h1 h2 =>
        rename_i a vs
        refine ⟨a, vs, rfl, same_seqT st.cfg.sub h1, ?_, snd_tgs st h2 e (h vs)⟩
        rw [h2.length]
        have : ∀ (is : List Nat) (xs : List PyData) (env : VEnv), tgEs is xs env = some env' → xs.length = is.length := by
          intro is
          induction is with
          | nil => intro xs env e; cases xs with
            | nil => rfl
            | cons _ _ => cases e
          | cons i is ih => intro xs env e; cases xs with
            | nil => cases e
            | cons x xs =>
              unfold tgEs at e
              split at e
              · simp [ih xs _ e]
              · cases e
        exact this is xs env e
    | _ => cases e
structure VG (X : Cx) (target : Expr) (tg : Tg) : Prop where
  ex : PG X target (tgT X.K tg)
structure VGs (X : Cx) (es : List Expr) (is : List Nat) : Prop where
  ex : PGs X es (gNms is)
theorem vg_name {i : Nat} {x : Str} (hN : X.N.Nodup) (hi : X.N[i]? = some x) (hx : Loc X.env.scope x) (hf : X.fn x = true ∨ X.env.scope.names.lookup x = some .local := by first | exact .inl rfl | exact .inr rfl | assumption) : VG X (.Name x pos) (.nm i) := ⟨pg_name hN hi hx hf⟩
theorem vgs_nil : VGs X [] [] := ⟨pgs_nil⟩
theorem vgs_cons {i : Nat} {x : Str} {is : List Nat} (hN : X.N.Nodup) (hi : X.N[i]? = some x) (hx : Loc X.env.scope x) (h2 : VGs X es is) (hf : X.fn x = true ∨ X.env.scope.names.lookup x = some .local := by first | exact .inl rfl | exact .inr rfl | assumption)
    (hs : (assignEach (.Name x pos :: es) X.env).map (·.2) = assign (.Name x pos) X.env :: (assignEach es X.env).map (·.2) := by rfl) : VGs X (.Name x pos :: es) (i :: is) := ⟨pgs_cons (pg_name hN hi hx hf) h2.ex hs⟩
theorem vg_tup {k : Nat} {is : List Nat} (hc : X.calm = true) (h : VGs X es is) (hn : (assignEach es X.env).length = is.length := by rfl) (hst : (assignEach es X.env).findIdx? (·.1) = none := by rfl) : VG X (.Tuple es k pos) (.tp is) := ⟨pg_tup hc h.ex hn hst⟩
/-- a, b = e -/
def sUnp (tg : Tg) (fe : VEnv → Rs RV) : VEnv → Out := fun env => (fe env).out env fun r => match r.toD with
  | some x => (match tgE tg x env with | some env' => .nx env' | none => .no)
  | none => .no
theorem vs_unp {tg : Expr} {g : Tg} (he : VE ca W X e fa) (hg : VG X tg g) (hs : swapsWithSole [tg] e pos.line X.env = pure false := by rfl) (hw : swappedStores [tg] e X.env = pure none := by rfl)
    (h1 : (assignEach [tg] X.env).map (·.2) = [assign tg X.env] := by rfl) : VS ca W X (.Assign [tg] e pos) (sUnp g fa) := by
  obtain ⟨t, pe, se⟩ := he
  refine ⟨_, ps_asg pe hg.ex hs hw h1, fun B F env σ H D st p => ?_⟩
  show t σ H fun x H1 => tgT X.K g x σ H1 D.nx
  refine outE se st p fun r F1 H1 v p1 gg q => ?_
  cases e1 : r.toD with
  | none => rw [e1] at p1; exact p1.elim
  | some x =>
    rw [e1] at p1
    obtain ⟨F2, g2, s2, q2⟩ := frz gg (Fz.of q e1)
    simp only at p1
    cases e2 : tgE g x env with
    | none => rw [e2] at p1; exact p1.elim
    | some env' => rw [e2] at p1; exact snd_tg (st.grow g2) q2 e2 fun vs st' => p1 F2 _ H1 s2 st'

/-! ### for -/
def loopF (tg : Tg) (f : VEnv → Out) : List PyData → VEnv → Out
  | [], env => .nx env
  | x :: xs, env => match tgE tg x env with
    | none => .no
    | some e1 => match f e1 with
      | .nx e => loopF tg f xs e
      | .ct e => loopF tg f xs e
      | .bk e => .nx e
      | o => o
def sFor (tg : Tg) (src : VEnv → Rs (List PyData)) (f : VEnv → Out) : VEnv → Out := fun env => (src env).out env fun xs => loopF tg f xs env
theorem drop_cons {α : Type} {xs : List α} {i : Nat} {x : α} (h : xs[i]? = some x) : xs.drop i = x :: xs.drop (i + 1) := by
  obtain ⟨h1, h2⟩ := List.getElem?_eq_some_iff.mp h
  rw [← h2]
  exact List.drop_eq_getElem_cons h1
theorem vs_for {tg iter : Expr} {body : List Stmt} {src : VEnv → Rs (List PyData)} {g : Tg} (hp : PassesOwn (model X.prog X.w) X.A X.env X.xe) (hc : X.calm = true) (hi : VI ca W X tg iter src) (hg : VG X tg g) (hb : VSs ca W X body f)
    (hs : ∀ x, foldedSetIterable iter X.env x = pure x := by intro _; rfl) : VS ca W X (.For tg iter body [] pos) (sFor g src f) := by
  obtain ⟨t, pi, si⟩ := hi
  obtain ⟨tb, pb, sb⟩ := hb
  refine ⟨_, ps_for hp hc pi hg.ex pb hs, fun B F env σ H D st p => ?_⟩
  refine si B F env σ H _ st ?_
  unfold sFor at p
  cases e : src env with
  | no => rw [e] at p; exact p
  | ex c fs => rw [e] at p; exact exOut st p
  | ok xs =>
    rw [e] at p
    intro J F1 H1 vs g1 d1 jw
    refine ⟨fun i m σ H => m = vs.length - i ∧ i ≤ vs.length ∧ ∃ F' env', Same F1 F' ∧ StOk X.K B F' env' σ H ∧ PostS X.K ca W B F' D (loopF g f (xs.drop i) env'), ⟨_, rfl, Nat.zero_le _, F1, env, Same.refl _, st.grow g1, PostS.mono g1.ff p⟩, ?_⟩
    rintro i m σ2 H2 ⟨rfl, hi, F2, env2, s2, st2, p2⟩
    have s3 : Same F1 H2 := s2.trans st2.cfg.sub
    by_cases hlt : i < vs.length
    · obtain ⟨x, hx, qx⟩ := DqA.get' d1 (List.getElem?_eq_getElem hlt)
      rw [drop_cons hx] at p2
      unfold loopF at p2
      refine .inr ⟨jw.go i H2 s3 hlt, fun σ' H' => ∃ F' env', Same F1 F' ∧ StOk X.K B F' env' σ' H' ∧ PostS X.K ca W B F' D (loopF g f (xs.drop (i + 1)) env'), fun σ' H' z => ⟨vs.length - (i + 1), by omega, rfl, hlt, z⟩, fun y H' hy => ?_⟩
      obtain ⟨rfl, e2⟩ := jw.yld i H2 y H' s3 hy hlt
      rw [List.getElem?_eq_getElem hlt] at e2
      cases e2
      cases e3 : tgE g x env2 with
      | none => rw [e3] at p2; exact p2.elim
      | some env3 =>
        rw [e3] at p2
        simp only at p2
        refine snd_tg st2 (qx.mono s2) e3 fun ws st3 => ?_
        refine sb B F2 env3 _ _ _ st3 ?_
        cases e4 : f env3 with
        | nx env' => rw [e4] at p2; exact fun F' σ' H' s st' => ⟨F', env', s2.trans s, st', PostS.mono s p2⟩
        | ct env' => rw [e4] at p2; exact fun F' σ' H' s st' => ⟨F', env', s2.trans s, st', PostS.mono s p2⟩
        | bk env' => rw [e4] at p2; exact p2
        | rt r => rw [e4] at p2; exact p2
        | ex c fs env' => rw [e4] at p2; exact p2
        | no => rw [e4] at p2; exact p2
    · have e5 : i = vs.length := by omega
      subst e5
      rw [List.drop_eq_nil_of_le (by rw [d1.length]; exact Nat.le_refl _)] at p2
      exact .inl ⟨jw.stop H2 s3, p2 F2 σ2 H2 (Same.refl _) st2⟩
end
end VL

namespace VL
open PySem PySem.Spec PyProof.Rows L2

/-- inside a comprehension nothing may be raised -/
abbrev W0 : WX := fun _ _ _ _ => False
section
variable {ca : Nat → Addr} {W : WX} {X : Cx} {a b e : Expr} {es : List Expr} {fa fb : VEnv → Rs RV} {pos : Pos} {st : Stmt} {rest : List Stmt} {f g : VEnv → Out}
/-! ## list comprehensions -/
def wipeE (env : VEnv) : List Nat → VEnv
  | [] => env
  | v :: vs => (wipeE env vs).set v none
theorem wipe_ok {K : PySem.W.Frag} {B : Base} {F H : Hp} {env : VEnv} {σ : L2.St} (st : StOk K B F env σ H) : ∀ vs : List Nat, StOk K B F (wipeE env vs) (wipe σ vs) H
  | [] => st
  | v :: vs => (wipe_ok st vs).drop v
theorem wipe_get {σ : L2.St} {i : Nat} {vs : List Nat} (h : i ∈ vs) : (wipe σ vs)[i]? = some none ∨ (wipe σ vs)[i]? = none := by
  cases e : (wipe σ vs)[i]? with
  | none => exact .inr rfl
  | some o =>
    cases o with
    | none => exact .inl rfl
    | some v => exact absurd h (wipe_some e).2
theorem wipe_all {σ σ' : L2.St} {vs : List Nat} (hl : σ'.length = σ.length) (h : ∀ i, i ∉ vs → σ'[i]? = σ[i]?) : wipe σ' vs = wipe σ vs := by
  apply List.ext_getElem?
  intro i
  by_cases hi : i ∈ vs
  · have l1 := wipe_length σ' vs
    have l2 := wipe_length σ vs
    rcases wipe_get (σ := σ') hi with h1 | h1 <;> rcases wipe_get (σ := σ) hi with h2 | h2
    · rw [h1, h2]
    · have a1 := (List.getElem?_eq_some_iff.mp h1).1
      have a2 := List.getElem?_eq_none_iff.mp h2
      omega
    · have a1 := (List.getElem?_eq_some_iff.mp h2).1
      have a2 := List.getElem?_eq_none_iff.mp h1
      omega
    · rw [h1, h2]
  · rw [wipe_out hi, wipe_out hi]
    exact h i hi
theorem wipe_wipe {σ : L2.St} (vs : List Nat) : wipe (wipe σ vs) vs = wipe σ vs := wipe_all (wipe_length σ vs) fun i hi => wipe_out hi
theorem setAll_len : ∀ (is : List Nat) (vs : List V) (σ : L2.St), (setAll is vs σ).length = σ.length
  | [], _, σ => by unfold setAll; rfl
  | i :: is, [], σ => by unfold setAll; rfl
  | i :: is, v :: vs, σ => by unfold setAll; rw [setAll_len is vs]; simp
theorem setAll_get : ∀ (is : List Nat) (vs : List V) (σ : L2.St) (j : Nat), j ∉ is → (setAll is vs σ)[j]? = σ[j]?
  | [], _, σ, j, _ => by unfold setAll; rfl
  | i :: is, [], σ, j, _ => by unfold setAll; rfl
  | i :: is, v :: vs, σ, j, h => by
    unfold setAll
    rw [setAll_get is vs _ j (fun z => h (List.mem_cons_of_mem _ z)), List.getElem?_set_ne (fun z => h (by subst z; exact List.mem_cons_self))]
theorem tgSt_wipe {tg : Tg} {v : V} {vs : List V} {σ : L2.St} {own : List Nat} (h : ∀ i ∈ tgIx tg, i ∈ own) : wipe (tgSt tg v vs (wipe σ own)) own = wipe σ own := by
  rw [← wipe_wipe (σ := σ) own]
  cases tg with
  | nm i =>
    rw [wipe_wipe]
    refine (wipe_all (σ' := (wipe σ own).set i (some v)) (σ := wipe σ own) (by simp) fun j hj => ?_).trans (wipe_wipe own)
    have hij : i ≠ j := fun z => by subst z; exact hj (h i (by simp [tgIx]))
    rw [List.getElem?_set_ne hij]
  | tp is =>
    rw [wipe_wipe]
    refine (wipe_all (σ' := setAll is vs (wipe σ own)) (σ := wipe σ own) (setAll_len is vs _) fun j hj => ?_).trans (wipe_wipe own)
    exact setAll_get is vs _ j fun z => hj (h j z)
/-- the ifs -/
structure VTs (ca : Nat → Addr) (W : WX) (X : Cx) (ifs : List Expr) (f : VEnv → Rs Bool) : Prop where
  ex : ∃ t, PTs X ifs t ∧ SndT X.K ca W t f
def bYes : VEnv → Rs Bool := fun _ => .ok true
theorem vts_nil : VTs ca W X [] bYes := ⟨_, pts_nil, fun _ _ _ _ _ _ st p => p _ _ (Grow.refl st.cfg)⟩
theorem vts_one {c : Expr} {t : VEnv → Rs Bool} (h : VT ca W X c t) : VTs ca W X [c] t := by
  obtain ⟨t, pe, se⟩ := h
  exact ⟨_, pts_one pe, se⟩
def lcF (tg : Tg) (t : VEnv → Rs Bool) (fe : VEnv → Rs RV) (env : VEnv) : List PyData → Rs (List PyData)
  | [] => .ok []
  | x :: xs => match tgE tg x env with
    | none => .no
    | some e1 => match t e1 with
      | .ok true => (match fe e1 with
        | .ok r => (match r.toD with
          | some d => (lcF tg t fe env xs).bind fun ds => .ok (d :: ds)
          | none => .no)
        | _ => .no)
      | .ok false => lcF tg t fe env xs
      | _ => .no
theorem lcF_ex {tg : Tg} {t : VEnv → Rs Bool} {fe : VEnv → Rs RV} {env : VEnv} {c : Nat} {fs : List (Str × PyData)} : ∀ xs : List PyData, lcF tg t fe env xs ≠ .ex c fs
  | [], h => by cases h
  | x :: xs, h => by
    have ih := lcF_ex (tg := tg) (t := t) (fe := fe) (env := env) (c := c) (fs := fs) xs
    unfold lcF at h
    split at h
    · cases h
    · split at h
      · split at h
        · split at h
          · cases e : lcF tg t fe env xs with
            | ok ds => rw [e] at h; cases h
            | ex c' fs' => rw [e] at h; simp at h; exact ih (by rw [e, h.1, h.2])
            | no => rw [e] at h; cases h
          · cases h
        · cases h
      · exact ih h
      · cases h
theorem lcF_len {tg : Tg} {t : VEnv → Rs Bool} {fe : VEnv → Rs RV} {env : VEnv} : ∀ (xs ds : List PyData), lcF tg t fe env xs = .ok ds → ds.length ≤ xs.length
  | [], ds, h => by cases h; simp
  | x :: xs, ds, h => by
    unfold lcF at h
    split at h
    · cases h
    · split at h
      · split at h
        · split at h
          · cases e : lcF tg t fe env xs with
            | ok es =>
              rw [e] at h
              have := lcF_len xs es e
              simp at h
              subst h
              simp
              exact this
            | ex c' fs' => rw [e] at h; cases h
            | no => rw [e] at h; cases h
          · cases h
        · cases h
      · have := lcF_len xs ds h
        simp; omega
      · cases h
def cLc (src : VEnv → Rs (List PyData)) (own : List Nat) (tg : Tg) (t : VEnv → Rs Bool) (fe : VEnv → Rs RV) : VEnv → Rs RV := fun env => (src env).bind fun xs => if xs.length ≤ 1000000 then (lcF tg t fe (wipeE env own) xs).bind fun ds => .ok (.ol ds) else .no
theorem million {n : Nat} (h : n ≤ 1000000) : n < sizeLine := Nat.lt_of_le_of_lt h (by decide)
theorem snd_lc {K : PySem.W.Frag} {wi : TI} {tt : TT} {te : TE} {src : VEnv → Rs (List PyData)} {own : List Nat} {tg : Tg} {t : VEnv → Rs Bool} {fe : VEnv → Rs RV} (ho : ∀ i ∈ tgIx tg, i ∈ own) (si : SndJ K ca W wi src) (s1 : SndT K ca W0 tt t) (s2 : SndE K ca W0 te fe) :
    SndE K ca W (tLc wi (tgT K tg) tt te own) (cLc src own tg t fe) := by
  intro B F env σ H Q st p
  refine si B F env σ H _ st ?_
  unfold cLc at p
  cases e : src env with
  | no => rw [e] at p; exact p
  | ex c fs => rw [e] at p; exact p
  | ok xs =>
    rw [e] at p
    simp only [Rs.bind_ok] at p
    split at p
    · rename_i hz
      cases e2 : lcF tg t fe (wipeE env own) xs with
      | no => rw [e2] at p; exact p.elim
      | ex c fs => exact absurd e2 (lcF_ex xs)
      | ok res =>
        rw [e2] at p
        intro J F1 H1 vs g1 d1 jw D nD
        have stw : StOk K B F1 (wipeE env own) (wipe σ own) H1 := wipe_ok (st.grow g1) own
        have fD : F1 D = none := same_none g1.cfg.sub nD
        refine ⟨fun i m H => m = vs.length - i ∧ i ≤ vs.length ∧ ∃ F' acc ds rs, Grow F1 H1 F' H ∧ F' D = none ∧ H D = some (.lst acc) ∧ DqA K F' acc ds ∧ lcF tg t fe (wipeE env own) (xs.drop i) = .ok rs ∧ ds ++ rs = res ∧ ds.length ≤ i,
          ⟨_, rfl, Nat.zero_le _, F1, [], [], res, Grow.newO g1.cfg _ nD (fun _ z => by cases z), fD, upd_same, .nil, e2, rfl, Nat.le_refl _⟩, ?_⟩
        rintro i m H2 ⟨rfl, hi, F2, acc, ds, rs, g2, f2, hD, q2, er, es, dl⟩
        by_cases hlt : i < vs.length
        · obtain ⟨x, hx, qx⟩ := DqA.get' d1 (List.getElem?_eq_getElem hlt)
          rw [drop_cons hx] at er
          unfold lcF at er
          refine .inr ⟨jw.go i H2 g2.hh hlt, fun H => i + 1 ≤ vs.length ∧ ∃ F' acc ds rs, Grow F1 H1 F' H ∧ F' D = none ∧ H D = some (.lst acc) ∧ DqA K F' acc ds ∧ lcF tg t fe (wipeE env own) (xs.drop (i + 1)) = .ok rs ∧ ds ++ rs = res ∧ ds.length ≤ i + 1,
            fun H' z => ⟨vs.length - (i + 1), by omega, rfl, z.1, z.2⟩, fun y H' hy => ?_⟩
          obtain ⟨rfl, e5⟩ := jw.yld i H2 y H' g2.hh hy hlt
          rw [List.getElem?_eq_getElem hlt] at e5
          cases e5
          cases e3 : tgE tg x (wipeE env own) with
          | none => rw [e3] at er; cases er
          | some env3 =>
            rw [e3] at er
            simp only at er
            refine snd_tg (stw.grow g2) (qx.mono g2.ff) e3 fun ws st3 => ⟨tgSt_wipe ho, ?_⟩
            refine s1 B F2 env3 _ _ _ st3 ?_
            cases e4 : t env3 with
            | no => rw [e4] at er; cases er
            | ex c fs => rw [e4] at er; cases er
            | ok b =>
              rw [e4] at er
              intro F4 H4 g4
              have f4 : F4 D = none := g4.stillFree f2 hD
              cases b with
              | false =>
                rw [if_neg Bool.false_ne_true]
                exact ⟨hlt, F4, acc, ds, rs, g2.trans g4, f4, g4.hh _ _ hD, DqA.mono g4.ff _ _ q2, er, es, by omega⟩
              | true =>
                rw [if_pos rfl]
                simp only at er
                refine s2 B F4 env3 _ H4 _ (st3.grow g4) ?_
                cases e6 : fe env3 with
                | no => rw [e6] at er; cases er
                | ex c fs => rw [e6] at er; cases er
                | ok r =>
                  rw [e6] at er
                  simp only at er
                  cases e7 : r.toD with
                  | none => rw [e7] at er; cases er
                  | some d =>
                    rw [e7] at er
                    simp only at er
                    cases e8 : lcF tg t fe (wipeE env own) (xs.drop (i + 1)) with
                    | no => rw [e8] at er; cases er
                    | ex c fs => rw [e8] at er; cases er
                    | ok rs' =>
                      rw [e8] at er
                      simp at er
                      intro F6 H6 v6 g6 q6
                      obtain ⟨F7, g7, s7, q7⟩ := frz g6 (Fz.of q6 e7)
                      have g8 : Grow F1 H1 F7 H6 := (g2.trans g4).trans g7
                      have h6 : H6 D = some (.lst acc) := g7.hh _ _ (g4.hh _ _ hD)
                      have f7 : F7 D = none := g7.stillFree f4 (g4.hh _ _ hD)
                      have qa : DqA K F7 acc ds := DqA.mono g7.ff _ _ (DqA.mono g4.ff _ _ q2)
                      have al : acc.length = ds.length := qa.length
                      refine ⟨acc, h6, million (by have := d1.length; omega), hlt, F7, acc ++ [v6], ds ++ [d], rs', g8.write nD f7 h6 (fun _ z => by cases z), f7, upd_same, qa.append (.cons q7 .nil), rfl, ?_, by simp; omega⟩
                      rw [← es, ← er]
                      simp
        · have e5 : i = vs.length := by omega
          subst e5
          rw [List.drop_eq_nil_of_le (by rw [d1.length]; exact Nat.le_refl _)] at er
          cases er
          rw [List.append_nil] at es
          subst es
          exact .inl ⟨jw.stop H2 g2.hh, p F2 H2 (.ref D) (g1.trans g2) ⟨D, acc, rfl, same_none g1.hh nD, f2, hD, q2⟩⟩
    · exact p.elim
/-- the one reading of a semantic function -/
def tU (K : PySem.W.Frag) (ca : Nat → Addr) (W : WX) (f : VEnv → Rs RV) : TE := fun σ H Q => ∃ B F env, StOk K B F env σ H ∧ PostE K ca W σ F H Q (f env)
def tUT (K : PySem.W.Frag) (ca : Nat → Addr) (W : WX) (f : VEnv → Rs Bool) : TT := fun σ H Q => ∃ B F env, StOk K B F env σ H ∧ PostB K ca W σ F H Q (f env)
theorem VE.pe {f : VEnv → Rs RV} (h : VE ca W X e f) : PE X e (tU X.K ca W f) := by
  obtain ⟨t, p, s⟩ := h
  exact ⟨fun pins s0 σ H Q I ⟨B, F, env, st, q⟩ => p.run pins s0 σ H Q I (s B F env σ H Q st q)⟩
theorem VTs.pt {ifs : List Expr} {f : VEnv → Rs Bool} (h : VTs ca W X ifs f) : PTs X ifs (tUT X.K ca W f) := by
  obtain ⟨t, p, s⟩ := h
  exact ⟨fun pins s0 σ H Q I ⟨B, F, env, st, q⟩ => p.run pins s0 σ H Q I (s B F env σ H Q st q)⟩
theorem ve_lc {elt tg iter : Expr} {ifs : List Expr} {scope : Scope} {own : List (Str × Nat)} {src : VEnv → Rs (List PyData)} {g : Tg} {t : VEnv → Rs Bool} {fe : VEnv → Rs RV} (hc : X.calm = true) (hN : X.N.Nodup) (hi : VJ ca W X tg iter src) (ok : BlkOk X.N X.env.scope scope own) (ho : ∀ i ∈ tgIx g, i ∈ own.map (·.2))
    (hg : ∀ (s : Shared) (H : Hp) (C : Addr) (cl : List (Str × Addr)) (fp : List Addr), VG (X.blk s H scope (compEnvC scope cl C X.env) fp) tg g) (ht : ∀ (s : Shared) (H : Hp) (C : Addr) (cl : List (Str × Addr)) (fp : List Addr), VTs ca W0 (X.blk s H scope (compEnvC scope cl C X.env) fp) ifs t)
    (he : ∀ (s : Shared) (H : Hp) (C : Addr) (cl : List (Str × Addr)) (fp : List Addr), VE ca W0 (X.blk s H scope (compEnvC scope cl C X.env) fp) elt fe) (hs : ∀ x, foldedSetIterable iter X.env x = pure x := by intro _; rfl) :
    VE ca W X (.ListComp elt [⟨tg, iter, ifs, 0⟩] scope pos) (cLc src (own.map (·.2)) g t fe) := by
  obtain ⟨wi, pi, si⟩ := hi
  exact ⟨_, pe_lc hc hN pi ok (fun s H C cl fp => (show PG _ tg (tgT X.K g) from (hg s H C cl fp).ex)) (fun s H C cl fp => (show PTs _ ifs (tUT X.K ca W0 t) from (ht s H C cl fp).pt)) (fun s H C cl fp => (show PE _ elt (tU X.K ca W0 fe) from (he s H C cl fp).pe)) hs,
    snd_lc ho si (fun B F env σ H Q st q => ⟨B, F, env, st, q⟩ : SndT X.K ca W0 (tUT X.K ca W0 t) t) (fun B F env σ H Q st q => ⟨B, F, env, st, q⟩ : SndE X.K ca W0 (tU X.K ca W0 fe) fe)⟩
/-- y = [..] on one line -/
theorem vs_setLc {i : Nat} {y : Str} {py : Pos} {elt tg iter : Expr} {ifs : List Expr} {scope : Scope} {own : List (Str × Nat)} {spos : Pos} {src : VEnv → Rs (List PyData)} {g : Tg} {t : VEnv → Rs Bool} {fe : VEnv → Rs RV} (hc : X.calm = true) (hN : X.N.Nodup) (hy : X.N[i]? = some y) (hyl : X.env.scope.names.lookup y = some .local)
    (hsw : swapsWith (.ListComp elt [⟨tg, iter, ifs, 0⟩] scope pos) (some (.Name y py)) spos.line X.env = pure true) (hi : VJ ca W X tg iter src) (ok : BlkOk X.N X.env.scope scope own) (ho : ∀ i ∈ tgIx g, i ∈ own.map (·.2))
    (hg : ∀ (s : Shared) (H : Hp) (C : Addr) (cl : List (Str × Addr)) (fp : List Addr), VG (X.blk s H scope (compEnvC scope cl C X.env) fp) tg g) (ht : ∀ (s : Shared) (H : Hp) (C : Addr) (cl : List (Str × Addr)) (fp : List Addr), VTs ca W0 (X.blk s H scope (compEnvC scope cl C X.env) fp) ifs t)
    (he : ∀ (s : Shared) (H : Hp) (C : Addr) (cl : List (Str × Addr)) (fp : List Addr), VE ca W0 (X.blk s H scope (compEnvC scope cl C X.env) fp) elt fe) (hs : ∀ x, foldedSetIterable iter X.env x = pure x := by intro _; rfl) :
    VS ca W X (.Assign [.Name y py] (.ListComp elt [⟨tg, iter, ifs, 0⟩] scope pos) spos) (sSet i (cLc src (own.map (·.2)) g t fe)) := by
  obtain ⟨wi, pi, si⟩ := hi
  refine ⟨_, ps_setLc hc hN hy hyl hsw pi ok (fun s H C cl fp => (show PG _ tg (tgT X.K g) from (hg s H C cl fp).ex)) (fun s H C cl fp => (show PTs _ ifs (tUT X.K ca W0 t) from (ht s H C cl fp).pt)) (fun s H C cl fp => (show PE _ elt (tU X.K ca W0 fe) from (he s H C cl fp).pe)) hs, fun B F env σ H D st p => ?_⟩
  have se := snd_lc (own := own.map (·.2)) (W := W) ho si (fun B F env σ H Q st q => ⟨B, F, env, st, q⟩ : SndT X.K ca W0 (tUT X.K ca W0 t) t) (fun B F env σ H Q st q => ⟨B, F, env, st, q⟩ : SndE X.K ca W0 (tU X.K ca W0 fe) fe)
  show tLc wi (tgT X.K g) (tUT X.K ca W0 t) (tU X.K ca W0 fe) (own.map (·.2)) σ H fun x H1 => D.nx (σ.set i (some x)) H1
  exact outE se st p fun r F1 H1 v p1 g q => snd_put st g q p1

/-! ## defs -/
/-- what is handed to a def -/
def RV.arg : RV → RV
  | .ol xs => .d (.list xs)
  | .od xs => .bd xs
  | .ot xs => .bt xs
  | r => r
theorem arg1 {K : PySem.W.Frag} {F0 H0 F H F1 : Hp} {v : V} {r : RV} (g1 : Grow F0 H0 F1 H) (s1 : Same F F1) (h1 : RVok K H0 F H v r) : ∃ F', Grow F0 H0 F' H ∧ Same F1 F' ∧ RVok K H F' H v r.arg := by
  cases r with
  | d x => exact ⟨F1, g1, Same.refl _, Dq.mono s1 x v h1⟩
  | ol xs =>
    obtain ⟨F2, g2, s2, q2⟩ := frz g1 ((Fz.of h1 (d := .list xs) rfl).mono s1)
    exact ⟨F2, g2, s2, q2⟩
  | bl xs => obtain ⟨p, ws, e1, hp, q⟩ := h1; exact ⟨F1, g1, Same.refl _, p, ws, e1, hp, DqA.mono s1 _ _ q⟩
  | od xs => obtain ⟨p, ws, e1, _, _, hp, q⟩ := h1; exact ⟨F1, g1, Same.refl _, p, ws, e1, hp, q.mono s1⟩
  | bd xs => obtain ⟨p, ws, e1, hp, q⟩ := h1; exact ⟨F1, g1, Same.refl _, p, ws, e1, hp, q.mono s1⟩
  | ot xs => obtain ⟨p, ws, e1, _, _, hp, q⟩ := h1; exact ⟨F1, g1, Same.refl _, p, ws, e1, hp, q.mono s1⟩
  | bt xs => obtain ⟨p, ws, e1, hp, q⟩ := h1; exact ⟨F1, g1, Same.refl _, p, ws, e1, hp, q.mono s1⟩
  | sc ns => obtain ⟨a, e1, q⟩ := h1; exact ⟨F1, g1, Same.refl _, a, e1, s1.seq q⟩
  | xo a dd c fs => obtain ⟨e1, xs, hp, q⟩ := h1; exact ⟨F1, g1, Same.refl _, e1, xs, hp, q.mono s1⟩
theorem arg_own (r : RV) : r.arg.own = false := by cases r <;> rfl
theorem arg_mono {K : PySem.W.Frag} {H F F' : Hp} (s : Same F F') {v : V} {r : RV} (ho : r.own = false) (h : RVok K H F H v r) : RVok K H F' H v r := by
  cases r with
  | d x => exact Dq.mono s x v h
  | bl xs => obtain ⟨p, ws, e1, hp, q⟩ := h; exact ⟨p, ws, e1, hp, DqA.mono s _ _ q⟩
  | bd xs => obtain ⟨p, ws, e1, hp, q⟩ := h; exact ⟨p, ws, e1, hp, q.mono s⟩
  | bt xs => obtain ⟨p, ws, e1, hp, q⟩ := h; exact ⟨p, ws, e1, hp, q.mono s⟩
  | sc ns => obtain ⟨a, e1, q⟩ := h; exact ⟨a, e1, s.seq q⟩
  | xo a dd c fs => obtain ⟨e1, xs, hp, q⟩ := h; exact ⟨e1, xs, hp, q.mono s⟩
  | _ => cases ho
theorem args_go {K : PySem.W.Frag} {F0 H0 F H : Hp} : ∀ {vs : List V} {rs : List RV} {F1 : Hp}, Grow F0 H0 F1 H → Same F F1 → Paired (fun v r => RVok K H0 F H v r) vs rs →
    ∃ F', Grow F0 H0 F' H ∧ Same F1 F' ∧ Paired (fun v r => RVok K H F' H v r) vs (rs.map RV.arg)
  | _, _, F1, g, s, .nil => ⟨F1, g, Same.refl _, .nil⟩
  | _, _, F1, g, s, .cons (b := r) h1 h2 => by
    obtain ⟨F2, g2, s2, q2⟩ := arg1 g s h1
    obtain ⟨F3, g3, s3, q3⟩ := args_go g2 (s.trans s2) h2
    exact ⟨F3, g3, s2.trans s3, .cons (arg_mono s3 (arg_own r) q2) q3⟩
/-- a def's promise -/
def PostF (K : PySem.W.Frag) (ca : Nat → Addr) (G H : Hp) (Q : VK) (E : XK) : Rs RV → Prop
  | .ok r => ∀ G' H' v, Grow G H G' H' → RVok K H G' H' v r → Q v H'
  | .ex c fs => ∀ G' H' cls dx, Grow G H G' H' → ExOk K ca G' H' cls dx c fs → E cls dx H'
  | .no => False
def spV (K : PySem.W.Frag) (ca : Nat → Addr) (n : Nat) (F : List RV → Rs RV) : Sp := fun vs H Q E => vs.length = n ∧ ∃ G rs, Cfg G H ∧ Paired (fun v r => RVok K H G H v r) vs rs ∧ PostF K ca G H Q E (F rs)
/-- the semantic function of a def out of that of its body; n: its slots -/
def Out.fin : Out → Rs RV
  | .nx _ => .ok (.d .none)
  | .rt r => .ok r
  | .ex c fs _ => .ex c fs
  | _ => .no
def fnD (n : Nat) (body : VEnv → Out) : List RV → Rs RV := fun rs => (body (rs.map some ++ List.replicate (n - rs.length) none)).fin
theorem start_ok {K : PySem.W.Frag} {G H : Hp} {vs : List V} {rs : List RV} (N : List Str) (c : Cfg G H) (h : Paired (fun v r => RVok K H G H v r) vs rs) : StOk K ⟨G, H⟩ G (rs.map some ++ List.replicate (N.length - rs.length) none) (start N vs) H := by
  have hl : vs.length = rs.length := Paired.length h
  have get : ∀ (i : Nat) (r : RV), (rs.map some ++ List.replicate (N.length - rs.length) none)[i]? = some (some r) → ∃ v, (start N vs)[i]? = some (some v) ∧ RVok K H G H v r := by
    intro i r e
    by_cases hi : i < rs.length
    · rw [List.getElem?_append_left (by simpa using hi), List.getElem?_map] at e
      have e1 : rs[i]? = some r := by
        cases z : rs[i]? with
        | none => rw [z] at e; cases e
        | some y => rw [z] at e; cases e; rfl
      have go : ∀ {vs : List V} {rs : List RV} {i : Nat}, Paired (fun v r => RVok K H G H v r) vs rs → rs[i]? = some r → ∃ v, vs[i]? = some v ∧ RVok K H G H v r := by
        intro vs rs i h
        induction h generalizing i with
        | nil => intro e; simp at e
        | cons h1 h2 ih => intro e; cases i with
          | zero => simp at e; subst e; exact ⟨_, rfl, h1⟩
          | succ i => obtain ⟨v, q1, q2⟩ := ih (i := i) (by simpa using e); exact ⟨v, by simpa using q1, q2⟩
      obtain ⟨v, q1, q2⟩ := go h e1
      refine ⟨v, ?_, q2⟩
      unfold L2.start
      rw [List.getElem?_append_left (by simpa using (by omega : i < vs.length)), List.getElem?_map, q1]
      rfl
    · rw [List.getElem?_append_right (by simpa using Nat.le_of_not_lt hi), List.getElem?_replicate] at e
      split at e
      · cases e
      · cases e
  have noOwn : ∀ (i : Nat) (r : RV), (rs.map some ++ List.replicate (N.length - rs.length) none)[i]? = some (some r) → r.own = true → False := by
    intro i r e o
    obtain ⟨v, _, q⟩ := get i r e
    cases r with
    | ol xs => obtain ⟨p, ws, _, n, _, hp, _⟩ := q; rw [n] at hp; cases hp
    | od xs => obtain ⟨p, ws, _, n, _, hp, _⟩ := q; rw [n] at hp; cases hp
    | ot xs => obtain ⟨p, ws, _, n, _, hp, _⟩ := q; rw [n] at hp; cases hp
    | _ => cases o
  refine ⟨Grow.refl c, ?_, get, fun i r p e o z => ?_, fun i j r r' p _ e _ o _ _ => (noOwn i r e o).elim⟩
  rotate_left
  · obtain ⟨v, e1, q⟩ := get i r e
    rw [z] at e1
    cases e1
    cases r with
    | bl xs => obtain ⟨a, ws, e2, hp, _⟩ := q; cases e2; exact ⟨_, hp⟩
    | bd xs => obtain ⟨a, ws, e2, hp, _⟩ := q; cases e2; exact ⟨_, hp⟩
    | bt xs => obtain ⟨a, ws, e2, hp, _⟩ := q; cases e2; exact ⟨_, hp⟩
    | _ => cases o
  unfold L2.start
  simp [hl]
theorem fn_ok {P : Program} {w : World} {K : PySem.W.Frag} {mg : Str → Option Value} {base : Heap} {x qual : Str} {sd : Stmt} {fA : Addr} {fd : FuncData} {N ps : List Str} {k : Nat} {body : VEnv → Out} (F : Fun K x qual sd fA fd) (S : FnScope N ps (defScope sd))
    (hb : ∀ (cdv : Value) (A : Around) (outer : List PySem.Env) (s : Shared) (H : Hp) (E : XK), Room k (A.deeper (envOfC qual (defScope sd) s.heap.objs.size fA cdv)) → Takes (cxOf (L2.CX P w) P w K mg base N qual (defScope sd) fA cdv A outer s H E) (fun cls dx _ H' => E cls dx H') →
      PassesOwn (model P w) (A.deeper (envOfC qual (defScope sd) s.heap.objs.size fA cdv)) (envOfC qual (defScope sd) s.heap.objs.size fA cdv) (cxOf (L2.CX P w) P w K mg base N qual (defScope sd) fA cdv A outer s H E).xe →
      VSs ca (fun cls dx _ H' => E cls dx H') (cxOf (L2.CX P w) P w K mg base N qual (defScope sd) fA cdv A outer s H E) (defBody sd) body) : FnOk P w K mg base (L2.CX P w) (k + 1) fA fd ps (spV K ca ps.length (fnD N.length body)) := by
  refine F.okX S (fun vs H Q E h => h.1) (fun cdv A outer s H vs Q E hr h => ?_)
  obtain ⟨hl, G, rs, c, pr, q⟩ := h
  obtain ⟨t, p, sn⟩ := hb cdv A outer s H E hr (takes_of rfl rfl rfl rfl) (passes_of rfl)
  refine ⟨t, p, sn ⟨G, H⟩ G _ _ H _ (start_ok N c pr) ?_⟩
  unfold fnD at q
  generalize hB : body (rs.map some ++ List.replicate (N.length - rs.length) none) = o at q ⊢
  cases o with
  | nx env => exact fun F' σ' H' s st => q F' H' .non st.gr .non
  | rt r => exact fun F' H' v g r => q F' H' v g r
  | ex c fs env => exact fun F' σ' H' cls dx s st x => q F' H' cls dx st.gr x
  | bk env => exact q.elim
  | ct env => exact q.elim
  | no => exact q.elim
/-- f(e, ..) -/
theorem ve_call {fA : Addr} {fd : FuncData} {ps : List Str} {x : Str} {p : Pos} {k n : Nat} {G : List RV → Rs RV} {f : VEnv → Rs (List RV)} (Fo : FnOk X.prog X.w X.K X.mg X.base (L2.CX X.prog X.w) k fA fd ps (spV X.K ca n G)) (hr : Room k X.A) (hg : Gl X x) (hm : X.mg x = some (.ref fA)) (hk : PySem.W.keepIn X.K (.ref fA) = true) (hb : Binds X.K fd ps []) (tk : Takes X W)
    (ha : VA ca W X (e :: es) f) (hn : (e :: es).length = n := by rfl) (hdb : (x == ("__debug__" : Str)) = false := by decide) (he : starEach (e :: es) X.env = (false, eval e X.env) :: starEach es X.env := by rfl) (hpl : (backTo pos (starEach es X.env)).any (·.1) = false := by rfl) :
    VE ca W X (.Call (.Name x p) (e :: es) [] pos) (cA (fun rs => if rs.length = n then G (rs.map RV.arg) else .no) f) := by
  obtain ⟨t, pa, sa⟩ := ha
  refine ⟨_, pe_callSD Fo hr hg hm hk hb .nil (fun σ => passAt tk σ) pa hdb he hpl, fun B F env σ H Q st q => ?_⟩
  show t σ H fun vs H1 => spV X.K ca n G (vs ++ []) H1 Q (WE W σ)
  refine seqA (PostE X.K ca W σ F H Q) sa st q (fun _ _ h => h) (fun h => h) fun rs F1 H1 vs p1 g1 q1 => ?_
  rw [List.append_nil]
  split at p1
  · rename_i hl
    obtain ⟨F2, g2, s2, q2⟩ := args_go g1 (Same.refl _) q1
    refine ⟨by rw [Paired.length q1, hl], F2, _, g2.cfg, q2, ?_⟩
    cases e1 : G (rs.map RV.arg) with
    | ok r => rw [e1] at p1; exact fun G' H' v gg rr => p1 G' H' v (g2.trans gg) (rr.older g2.hh)
    | ex c fs => rw [e1] at p1; exact fun G' H' cls dx gg x => p1 G' H' cls dx (g2.trans gg) x
    | no => rw [e1] at p1; exact p1
  · exact p1.elim
end
end VL

namespace VL
open PySem PySem.Spec PyProof.Rows L2

/-! ## reading values -/
def RV.lv : RV → Option (List PyData)
  | .d (.list xs) => some xs
  | .ol xs => some xs
  | .bl xs => some xs
  | _ => none
def RV.qv : RV → Option (List PyData)
  | .sc ns => some (ns.map .int)
  | r => r.lv
def RV.tv : RV → Option (List PyData)
  | .d (.tuple xs) => some xs
  | _ => none
def RV.data : RV → Option PyData
  | .d x => some x
  | .ol xs => some (.list xs)
  | .bl xs => some (.list xs)
  | .sc ns => some (.list (ns.map .int))
  | _ => none
section
variable {K : PySem.W.Frag} {ca : Nat → Addr} {H0 F H : Hp} {v : V} {r : RV} {xs : List PyData}
theorem lv_ok (s : Same F H) (h : RVok K H0 F H v r) (e : r.lv = some xs) : ∃ p vs, v = .ref p ∧ H p = some (.lst vs) ∧ DqA K F vs xs := by
  cases r with
  | d x =>
    cases x with
    | list ys => cases e; cases h with
      | lst h1 h2 => exact ⟨_, _, rfl, s _ _ h1, h2⟩
    | _ => cases e
  | ol ys => cases e; obtain ⟨p, vs, e1, _, _, hp, q⟩ := h; exact ⟨p, vs, e1, hp, q⟩
  | bl ys => cases e; obtain ⟨p, vs, e1, hp, q⟩ := h; exact ⟨p, vs, e1, hp, q⟩
  | _ => cases e
theorem qv_ok (s : Same F H) (h : RVok K H0 F H v r) (e : r.qv = some xs) : ∃ p vs, v = .ref p ∧ SqL K H p vs ∧ DqA K F vs xs := by
  cases r with
  | sc ns => cases e; obtain ⟨a, e1, q⟩ := h; exact ⟨a, _, e1, s.seq q, DqA.of_ints ns⟩
  | d x => obtain ⟨p, vs, e1, hp, q⟩ := lv_ok s h e; exact ⟨p, vs, e1, SqL.of hp, q⟩
  | ol x => obtain ⟨p, vs, e1, hp, q⟩ := lv_ok s h e; exact ⟨p, vs, e1, SqL.of hp, q⟩
  | bl x => obtain ⟨p, vs, e1, hp, q⟩ := lv_ok s h e; exact ⟨p, vs, e1, SqL.of hp, q⟩
  | _ => cases e
theorem tv_ok (s : Same F H) (h : RVok K H0 F H v r) (e : r.tv = some xs) : ∃ p vs, v = .ref p ∧ SqT K H p vs ∧ SqT K F p vs ∧ DqA K F vs xs := by
  cases r with
  | d x =>
    cases x with
    | tuple ys => cases e; cases h with
      | tup h1 h2 => exact ⟨_, _, rfl, same_seqT s h1, h1, h2⟩
    | _ => cases e
  | _ => cases e
theorem data_ok {x : PyData} (s : Same F H) (h : RVok K H0 F H v r) (e : r.data = some x) : Dp K H v x := by
  cases r with
  | d y => cases e; exact Dq.dp x v (Dq.mono s x v h)
  | ol ys => cases e; obtain ⟨p, vs, e1, _, _, hp, q⟩ := h; subst e1; exact .lst (SqL.of hp) (DqA.dp _ _ (DqA.mono s _ _ q))
  | bl ys => cases e; obtain ⟨p, vs, e1, hp, q⟩ := h; subst e1; exact .lst (SqL.of hp) (DqA.dp _ _ (DqA.mono s _ _ q))
  | sc ns => cases e; obtain ⟨a, e1, q⟩ := h; subst e1; exact .lst (s.seq q) (DqA.dp _ _ (DqA.of_ints (F := H) ns))
  | _ => cases e
theorem atI_dq {vs : List V} {i : Int} {d : PyData} (h : DqA K F vs xs) (e : atI xs i = some d) : ∃ w, atI vs i = some w ∧ Dq K F w d := by
  unfold atI at e ⊢
  rw [h.length]
  cases z : ixN xs.length i with
  | none => rw [z] at e; cases e
  | some j => rw [z] at e; exact h.get e
instance dCMul (i j : Int) : Decidable (CMul i j) := inferInstanceAs (Decidable ((-(2 ^ 64) < i ∧ i < 2 ^ 64) ∨ (-(2 ^ 64) < j ∧ j < 2 ^ 64)))
instance dCDiv (i j : Int) : Decidable (CDiv i j) := inferInstanceAs (Decidable (0 < j ∧ j < 1073741824))
instance dCPow (i j : Int) : Decidable (CPow i j) := inferInstanceAs (Decidable (0 ≤ j ∧ j ≤ 1000000 ∧ i.natAbs < 2 ^ 64))
/-! ### numbers -/
def RV.i2 (f : Int → Int → Rs RV) : RV → RV → Rs RV
  | .d (.int i), .d (.int j) => f i j
  | _, _ => .no
def okI (i : Int) : Rs RV := .ok (.d (.int i))
def okB (b : Bool) : Rs RV := .ok (.d (.bool b))
theorem snd_i2 {C : Int → Int → Prop} [∀ i j, Decidable (C i j)] {g : Int → Int → Int} : Op2S K ca (rI C fun i j => .int (g i j)) (RV.i2 fun i j => if C i j then okI (g i j) else .no) := by
  intro W σ F0 H0 F H v1 v2 a b Q gr h1 h2 p
  cases a with
  | d x => cases b with
    | d y => cases x with
      | int i => cases y with
        | int j =>
          cases h1; cases h2
          simp only [RV.i2] at p
          split at p
          · rename_i c; exact ⟨i, j, rfl, rfl, c, p F H _ gr (.int _)⟩
          · exact p.elim
        | _ => exact p.elim
      | _ => exact p.elim
    | _ => cases x <;> exact p.elim
  | _ => exact p.elim
theorem snd_i20 {g : Int → Int → V} {g' : Int → Int → PyData} (hg : ∀ (F : Hp) i j, Dq K F (g i j) (g' i j)) : Op2S K ca (rI0 g) (RV.i2 fun i j => .ok (.d (g' i j))) := by
  intro W σ F0 H0 F H v1 v2 a b Q gr h1 h2 p
  cases a with
  | d x => cases b with
    | d y => cases x with
      | int i => cases y with
        | int j => cases h1; cases h2; exact ⟨i, j, rfl, rfl, p F H _ gr (hg _ _ _)⟩
        | _ => exact p.elim
      | _ => exact p.elim
    | _ => cases x <;> exact p.elim
  | _ => exact p.elim
def gSub := RV.i2 fun i j => okI (i - j)
def gMul := RV.i2 fun i j => if i.natAbs < 18446744073709551616 ∨ j.natAbs < 18446744073709551616 then okI (i * j) else .no
def gMod := RV.i2 fun i j => if 0 < j then okI (i % j) else .no
def gDiv := RV.i2 fun i j => if 0 < j ∧ j.natAbs < 1073741824 then okI (i / j) else .no
def gPow := RV.i2 fun i j => if 0 ≤ j ∧ j ≤ 1000000 ∧ i.natAbs < 2 ^ 64 then okI (i ^ j.toNat) else .no
def gLt := RV.i2 fun i j => okB (decide (i < j))
def gLe := RV.i2 fun i j => okB (decide (i ≤ j))
def gGt := RV.i2 fun i j => okB (decide (j < i))
def gGe := RV.i2 fun i j => okB (decide (j ≤ i))
theorem s_sub : Op2S K ca (rI0 fun i j => .int (i - j)) gSub := snd_i20 fun _ _ _ => .int _
theorem rI_weak {C C' : Int → Int → Prop} {g : Int → Int → V} {G : RV → RV → Rs RV} (h : ∀ i j, C i j → C' i j) (s : Op2S K ca (rI C g) G) : Op2S K ca (rI C' g) G := by
  intro W σ F0 H0 F H v1 v2 a b Q gr h1 h2 p
  obtain ⟨i, j, e1, e2, c, q⟩ := s W σ F0 H0 F H v1 v2 a b Q gr h1 h2 p
  exact ⟨i, j, e1, e2, h i j c, q⟩
theorem s_div : Op2S K ca (rI CDiv fun i j => .int (i / j)) gDiv :=
  rI_weak (C := fun i j => 0 < j ∧ j.natAbs < 1073741824) (fun i j h => by unfold CDiv; omega) snd_i2
theorem s_mul : Op2S K ca (rI CMul fun i j => .int (i * j)) gMul :=
  rI_weak (C := fun i j => i.natAbs < 18446744073709551616 ∨ j.natAbs < 18446744073709551616) (fun i j h => by unfold CMul; omega) snd_i2
theorem s_mod : Op2S K ca (rI (fun _ j => 0 < j) fun i j => .int (i % j)) gMod := snd_i2
theorem s_pow : Op2S K ca (rI CPow fun i j => .int (i ^ j.toNat)) gPow := by
  exact snd_i2 (C := CPow)
theorem s_lt : Op2S K ca (rI0 fun i j => .bl (decide (i < j))) gLt := snd_i20 fun _ _ _ => .bl _
theorem s_le : Op2S K ca (rI0 fun i j => .bl (decide (i ≤ j))) gLe := snd_i20 fun _ _ _ => .bl _
theorem s_gt : Op2S K ca (rI0 fun i j => .bl (decide (j < i))) gGt := snd_i20 fun _ _ _ => .bl _
theorem s_ge : Op2S K ca (rI0 fun i j => .bl (decide (j ≤ i))) gGe := snd_i20 fun _ _ _ => .bl _
def gNeg : RV → Rs RV
  | .d (.int i) => okI (-i)
  | _ => .no
theorem s_neg : Op1S K ca (rU fun i => .int (-i)) gNeg := by
  intro W σ F0 H0 F H v a Q gr h p
  cases a with
  | d x => cases x with
    | int i => cases h; exact ⟨i, rfl, p F H _ gr (.int _)⟩
    | _ => exact p.elim
  | _ => exact p.elim
/-! ### + -/
def rOr (r r' : R2) : R2 := fun x y H Q => r x y H Q ∨ r' x y H Q
theorem op_or' {X : Cx} {f : Value → Value → Sem Value} {r r' : R2} (h : OpR X f r) (h' : OpR X f r') : OpR X f (rOr r r') := by
  intro pins s σ H x y v u Q I rx ry q
  rcases q with q | q
  · exact h pins s σ H x y v u Q I rx ry q
  · exact h' pins s σ H x y v u Q I rx ry q
abbrev rStr : R2 := fun x y H Q => ∃ i j, x = .str i ∧ y = .str j ∧ i.length + j.length ≤ sizeLine ∧ Q (.str (i ++ j)) H
def rAddA (K : PySem.W.Frag) : R2 := rOr (rI0 fun i j => .int (i + j)) (rOr rStr (rOr rCat (rCatA K)))
theorem op_addA {X : Cx} : OpR X (binaryOp .Add) (rAddA X.K) := op_or' op_add (op_or' op_add_str (op_or' op_cat op_catA))
def gAdd (a b : RV) : Rs RV := match a, b with
  | .d (.int i), .d (.int j) => okI (i + j)
  | .d (.str x), .d (.str y) => if x.length + y.length ≤ 1000000 then .ok (.d (.str (x ++ y))) else .no
  | .d (.tuple xs), .d (.tuple ys) => if xs.length + ys.length ≤ 1000000 then .ok (.d (.tuple (xs ++ ys))) else .no
  | a, b => match a.lv, b.lv with
    | some xs, some ys => if xs.length + ys.length ≤ 1000000 then .ok (.ol (xs ++ ys)) else .no
    | _, _ => .no
theorem gAdd_lv {xs ys : List PyData} {a b : RV} (e1 : a.lv = some xs) (e2 : b.lv = some ys) : gAdd a b = if xs.length + ys.length ≤ 1000000 then .ok (.ol (xs ++ ys)) else .no := by
  unfold gAdd
  split
  · cases e1
  · cases e1
  · cases e1
  · rw [e1, e2]
theorem s_add : Op2S K ca (rAddA K) gAdd := by
  intro W σ F0 H0 F H v1 v2 a b Q gr h1 h2 p
  unfold gAdd at p
  split at p
  · cases h1; cases h2; exact .inl ⟨_, _, rfl, rfl, p F H _ gr (.int _)⟩
  · cases h1; cases h2
    split at p
    · rename_i hz
      exact .inr (.inl ⟨_, _, rfl, rfl, Nat.le_of_lt (million hz), p F H _ gr (.str _)⟩)
    · exact p.elim
  · split at p
    · rename_i xs ys hz
      obtain ⟨p1, vs, rfl, a1, a1', q1⟩ := tv_ok gr.cfg.sub h1 rfl
      obtain ⟨p2, ws, rfl, a2, a2', q2⟩ := tv_ok gr.cfg.sub h2 rfl
      refine .inr (.inr (.inr ⟨p1, p2, vs, ws, rfl, rfl, a1, a2, ?_, fun e => ?_, fun e e' => ?_, fun e e' l hl => ?_⟩))
      · rw [q1.length, q2.length]; exact Nat.le_of_lt (million hz)
      · subst e
        have : xs = [] := by have := q1.length; cases xs with
          | nil => rfl
          | cons _ _ => simp at this
        subst this
        exact p F H _ gr (.tup a2' q2)
      · subst e'
        have : ys = [] := by have := q2.length; cases ys with
          | nil => rfl
          | cons _ _ => simp at this
        subst this
        exact p F H _ gr (by rw [List.append_nil]; exact .tup a1' q1)
      · have g2 := Grow.newF gr.cfg (.tup (vs ++ ws)) hl
        exact p _ _ _ (gr.trans g2) (.tup (.inl (.inl upd_same)) ((DqA.mono g2.ff _ _ q1).append (DqA.mono g2.ff _ _ q2)))
    · exact p.elim
  · split at p
    · rename_i xs ys e1 e2
      split at p
      · rename_i hz
        obtain ⟨p1, vs, rfl, a1, q1⟩ := lv_ok gr.cfg.sub h1 e1
        obtain ⟨p2, ws, rfl, a2, q2⟩ := lv_ok gr.cfg.sub h2 e2
        refine .inr (.inr (.inl ⟨p1, p2, vs, ws, rfl, rfl, a1, a2, ?_, fun l hl => ?_⟩))
        · rw [q1.length, q2.length]; exact Nat.le_of_lt (million hz)
        · have g2 := Grow.newO gr.cfg (.lst (vs ++ ws)) hl (fun _ z => by cases z)
          exact p _ _ _ (gr.trans g2) ⟨l, _, rfl, same_none gr.hh hl, same_none gr.cfg.sub hl, upd_same, q1.append q2⟩
      · exact p.elim
    · exact p.elim
/-! ### == and in -/
def gEq (a b : RV) : Rs RV := (rsO a.data).bind fun x => (rsO b.data).bind fun y => if SeqAt.shaped x = true ∧ SeqAt.shaped y = true then okB (PyData.eqv x y) else .no
def gNe (a b : RV) : Rs RV := (rsO a.data).bind fun x => (rsO b.data).bind fun y => if SeqAt.shaped x = true ∧ SeqAt.shaped y = true then okB (!PyData.eqv x y) else .no
theorem s_eq : Op2S K ca (rEqD K) gEq := by
  intro W σ F0 H0 F H v1 v2 a b Q gr h1 h2 p
  unfold gEq at p
  cases e1 : a.data with
  | none => rw [e1] at p; exact p.elim
  | some x => cases e2 : b.data with
    | none => rw [e1, e2] at p; exact p.elim
    | some y =>
      rw [e1, e2] at p
      simp only [rsO_some, Rs.bind_ok] at p
      split at p
      · rename_i s; exact ⟨x, y, data_ok gr.cfg.sub h1 e1, data_ok gr.cfg.sub h2 e2, s.1, s.2, p F H _ gr (.bl _)⟩
      · exact p.elim
theorem s_ne : Op2S K ca (rNeD K) gNe := by
  intro W σ F0 H0 F H v1 v2 a b Q gr h1 h2 p
  unfold gNe at p
  cases e1 : a.data with
  | none => rw [e1] at p; exact p.elim
  | some x => cases e2 : b.data with
    | none => rw [e1, e2] at p; exact p.elim
    | some y =>
      rw [e1, e2] at p
      simp only [rsO_some, Rs.bind_ok] at p
      split at p
      · rename_i s; exact ⟨x, y, data_ok gr.cfg.sub h1 e1, data_ok gr.cfg.sub h2 e2, s.1, s.2, p F H _ gr (.bl _)⟩
      · exact p.elim
def rInT (K : PySem.W.Frag) : R2 := fun x y H Q => ∃ d ds, Dp K H x d ∧ Dp K H y (.tuple ds) ∧ SeqAt.shaped d = true ∧ SeqAt.shaped (.tuple ds) = true ∧ Q (.bl (ds.any fun z => PyData.eqv z d)) H
def rNotInT (K : PySem.W.Frag) : R2 := fun x y H Q => ∃ d ds, Dp K H x d ∧ Dp K H y (.tuple ds) ∧ SeqAt.shaped d = true ∧ SeqAt.shaped (.tuple ds) = true ∧ Q (.bl (!ds.any fun z => PyData.eqv z d)) H
theorem op_inT {X : Cx} (hu : X.A.units + 65 < cLine) : OpR X (compareOp .In) (rInT X.K) := by
  intro pins s σ H x y v u Q I rx ry h
  obtain ⟨d, ds, hd, he, sd, se, q⟩ := h
  obtain ⟨as, r1⟩ := Dp.reads I d x v hd rx
  obtain ⟨bs, r2⟩ := Dp.reads I (.tuple ds) y u he ry
  exact SeqAt.in_tuple_reads r2 r1 (SeqAt.canLay_of_shaped se) (SeqAt.canLay_of_shaped sd) (PyProof.Rows.room_in_shaped sd hu) ⟨.bl _, H, I, rfl, q⟩
theorem op_notInT {X : Cx} (hu : X.A.units + 65 < cLine) : OpR X (compareOp .NotIn) (rNotInT X.K) := by
  intro pins s σ H x y v u Q I rx ry h
  obtain ⟨d, ds, hd, he, sd, se, q⟩ := h
  obtain ⟨as, r1⟩ := Dp.reads I d x v hd rx
  obtain ⟨bs, r2⟩ := Dp.reads I (.tuple ds) y u he ry
  exact SeqAt.notIn_tuple_reads r2 r1 (SeqAt.canLay_of_shaped se) (SeqAt.canLay_of_shaped sd) (PyProof.Rows.room_in_shaped sd hu) ⟨.bl _, H, I, rfl, q⟩
abbrev rSubS : R2 := fun x y H Q => ∃ i j, x = .str i ∧ y = .str j ∧ Q (.bl (!(Builtin.Str.occurrences j i 0 j.length 1).isEmpty)) H
abbrev rNSubS : R2 := fun x y H Q => ∃ i j, x = .str i ∧ y = .str j ∧ Q (.bl (!(!(Builtin.Str.occurrences j i 0 j.length 1).isEmpty))) H
def rInA (K : PySem.W.Frag) : R2 := rOr (rInD K) (rOr (rInT K) rSubS)
def rNotInA (K : PySem.W.Frag) : R2 := rOr (rNotInD K) (rOr (rNotInT K) rNSubS)
theorem op_inA {X : Cx} (hu : X.A.units + 65 < cLine) : OpR X (compareOp .In) (rInA X.K) := op_or' (op_inD hu) (op_or' (op_inT hu) op_in_str)
theorem op_notInA {X : Cx} (hu : X.A.units + 65 < cLine) : OpR X (compareOp .NotIn) (rNotInA X.K) := op_or' (op_notInD hu) (op_or' (op_notInT hu) op_notin_str)
theorem hu65 {A : Around} {k : Nat} (hr : Room k A) : A.units + 65 < cLine := by have := hr.un; omega
def gInB (a b : RV) : Rs Bool := match a, b with
  | .d (.str x), .d (.str y) => .ok (!(Builtin.Str.occurrences y x 0 y.length 1).isEmpty)
  | a, .d (.tuple ds) => (rsO a.data).bind fun x => if SeqAt.shaped x = true ∧ SeqAt.shaped (.tuple ds) = true then .ok (ds.any fun z => PyData.eqv z x) else .no
  | a, b => (rsO a.data).bind fun x => (rsO b.data).bind fun y => match y with
    | .list ds => if SeqAt.shaped x = true ∧ SeqAt.shaped (.list ds) = true then .ok (ds.any fun z => PyData.eqv z x) else .no
    | _ => .no
def gIn (a b : RV) : Rs RV := (gInB a b).bind okB
def gNotIn (a b : RV) : Rs RV := (gInB a b).bind fun k => okB (!k)
theorem gInB_sound {v1 v2 : V} {a b : RV} {α : Type} {P : Rs α → Prop} {k : Bool → Rs α} (s : Same F H) (h1 : RVok K H0 F H v1 a) (h2 : RVok K H0 F H v2 b) (hn : ¬ P .no) (p : P ((gInB a b).bind k)) :
    (∃ d ds, Dp K H v1 d ∧ Dp K H v2 (.list ds) ∧ SeqAt.shaped d = true ∧ SeqAt.shaped (.list ds) = true ∧ P (k (ds.any fun z => PyData.eqv z d))) ∨
    (∃ d ds, Dp K H v1 d ∧ Dp K H v2 (.tuple ds) ∧ SeqAt.shaped d = true ∧ SeqAt.shaped (.tuple ds) = true ∧ P (k (ds.any fun z => PyData.eqv z d))) ∨
    ∃ i j, v1 = .str i ∧ v2 = .str j ∧ P (k (!(Builtin.Str.occurrences j i 0 j.length 1).isEmpty)) := by
  unfold gInB at p
  split at p
  · cases h1; cases h2; exact .inr (.inr ⟨_, _, rfl, rfl, p⟩)
  · rename_i ds
    cases e1 : a.data with
    | none => rw [e1] at p; exact absurd p hn
    | some x =>
      rw [e1] at p
      simp only [rsO_some, Rs.bind_ok] at p
      split at p
      · rename_i z; exact .inr (.inl ⟨x, ds, data_ok s h1 e1, data_ok s h2 rfl, z.1, z.2, p⟩)
      · exact absurd p hn
  · cases e1 : a.data with
    | none => rw [e1] at p; exact absurd p hn
    | some x => cases e2 : b.data with
      | none => rw [e1, e2] at p; exact absurd p hn
      | some y =>
        rw [e1, e2] at p
        simp only [rsO_some, Rs.bind_ok] at p
        split at p
        · split at p
          · rename_i z; exact .inl ⟨x, _, data_ok s h1 e1, data_ok s h2 e2, z.1, z.2, p⟩
          · exact absurd p hn
        · exact absurd p hn
theorem s_in : Op2S K ca (rInA K) gIn := by
  intro W σ F0 H0 F H v1 v2 a b Q gr h1 h2 p
  rcases gInB_sound (P := PostE K ca W σ F0 H0 Q) gr.cfg.sub h1 h2 (fun h => h) p with ⟨d, ds, q1, q2, q3, q4, q5⟩ | ⟨d, ds, q1, q2, q3, q4, q5⟩ | ⟨i, j, e1, e2, q5⟩
  · exact .inl ⟨d, ds, q1, q2, q3, q4, q5 F H _ gr (.bl _)⟩
  · exact .inr (.inl ⟨d, ds, q1, q2, q3, q4, q5 F H _ gr (.bl _)⟩)
  · exact .inr (.inr ⟨i, j, e1, e2, q5 F H _ gr (.bl _)⟩)
theorem s_notIn : Op2S K ca (rNotInA K) gNotIn := by
  intro W σ F0 H0 F H v1 v2 a b Q gr h1 h2 p
  rcases gInB_sound (P := PostE K ca W σ F0 H0 Q) gr.cfg.sub h1 h2 (fun h => h) p with ⟨d, ds, q1, q2, q3, q4, q5⟩ | ⟨d, ds, q1, q2, q3, q4, q5⟩ | ⟨i, j, e1, e2, q5⟩
  · exact .inl ⟨d, ds, q1, q2, q3, q4, q5 F H _ gr (.bl _)⟩
  · exact .inr (.inl ⟨d, ds, q1, q2, q3, q4, q5 F H _ gr (.bl _)⟩)
  · exact .inr (.inr ⟨i, j, e1, e2, q5 F H _ gr (.bl _)⟩)
/-- is None -/
def isNone : RV → Bool
  | .d .none => true
  | _ => false
def gIs (a b : RV) : Rs RV := match b with
  | .d .none => okB (isNone a)
  | _ => .no
def gIsNot (a b : RV) : Rs RV := match b with
  | .d .none => okB (!isNone a)
  | _ => .no
theorem isNone_ok (h : RVok K H0 F H v r) : decide (v = .non) = isNone r := by
  cases r with
  | d x => cases x <;> cases h <;> rfl
  | ol xs => obtain ⟨p, vs, rfl, _⟩ := h; rfl
  | bl xs => obtain ⟨p, vs, rfl, _⟩ := h; rfl
  | od xs => obtain ⟨p, vs, rfl, _⟩ := h; rfl
  | bd xs => obtain ⟨p, vs, rfl, _⟩ := h; rfl
  | ot xs => obtain ⟨p, vs, rfl, _⟩ := h; rfl
  | bt xs => obtain ⟨p, vs, rfl, _⟩ := h; rfl
  | sc ns => obtain ⟨a, rfl, _⟩ := h; rfl
  | xo a dd c fs => obtain ⟨rfl, _⟩ := h; rfl
theorem s_is : Op2S K ca (fun x y H Q => y = .non ∧ Q (.bl (decide (x = .non))) H) gIs := by
  intro W σ F0 H0 F H v1 v2 a b Q gr h1 h2 p
  unfold gIs at p
  split at p
  · cases h2; exact ⟨rfl, by rw [isNone_ok h1]; exact p F H _ gr (.bl _)⟩
  · exact p.elim
theorem s_isNot : Op2S K ca (fun x y H Q => y = .non ∧ Q (.bl (!decide (x = .non))) H) gIsNot := by
  intro W σ F0 H0 F H v1 v2 a b Q gr h1 h2 p
  unfold gIsNot at p
  split at p
  · cases h2; exact ⟨rfl, by rw [isNone_ok h1]; exact p F H _ gr (.bl _)⟩
  · exact p.elim
/-! ### subscripts -/
def RV.sq (r : RV) : Option (List PyData) := match r with
  | .d (.tuple xs) => some xs
  | r => r.qv
def gIx (a b : RV) : Rs RV := match b with
  | .d (.int i) => (match a with
    | .d (.str z) => if z.length ≤ 1000000 then (rsO (atI z.cps.toList i)).bind fun c => .ok (.d (.str ⟨#[c]⟩)) else .no
    | a => (rsO a.sq).bind fun xs => (rsO (atI xs i)).bind fun d => .ok (.d d))
  | _ => .no
theorem s_ix : Op2S K ca (rIx K) gIx := by
  intro W σ F0 H0 F H v1 v2 a b Q gr h1 h2 p
  unfold gIx at p
  split at p
  · rename_i i
    cases h2
    split at p
    · rename_i z
      cases h1
      split at p
      · rename_i hz
        cases e : atI z.cps.toList i with
        | none => rw [e] at p; exact p.elim
        | some c => rw [e] at p; exact .inr (.inr ⟨z, i, c, rfl, rfl, Nat.le_of_lt (million hz), e, p F H _ gr (.str _)⟩)
      · exact p.elim
    · cases e : a.sq with
      | none => rw [e] at p; exact p.elim
      | some xs =>
        rw [e] at p
        simp only [rsO_some, Rs.bind_ok] at p
        cases e2 : atI xs i with
        | none => rw [e2] at p; exact p.elim
        | some d =>
          rw [e2] at p
          by_cases ht : a.tv = some xs
          · obtain ⟨p1, vs, rfl, a1, _, q1⟩ := tv_ok gr.cfg.sub h1 ht
            obtain ⟨w, e3, q3⟩ := atI_dq q1 e2
            exact .inr (.inl ⟨p1, vs, i, w, rfl, rfl, a1, e3, p F H _ gr q3⟩)
          · have eq : a.qv = some xs := by
              unfold RV.sq at e
              split at e
              · exact absurd (by exact e) ht
              · exact e
            obtain ⟨p1, vs, rfl, a1, q1⟩ := qv_ok gr.cfg.sub h1 eq
            obtain ⟨w, e3, q3⟩ := atI_dq q1 e2
            exact .inl ⟨p1, vs, i, w, rfl, rfl, a1, e3, p F H _ gr q3⟩
  · exact p.elim
/-! ### slices -/
def cutL {α : Type} (xs : List α) (lo hi : Option Int) : List α := (xs.drop (HT.sIx xs.length 0 lo)).take (HT.sIx xs.length xs.length hi - HT.sIx xs.length 0 lo)
theorem cut_dq {vs : List V} (h : DqA K F vs xs) (lo hi : Option Int) : DqA K F (cutV vs lo hi) (cutL xs lo hi) := by
  unfold cutV cutL
  rw [h.length]
  exact (h.drop _).take _
def gSl (a : RV) (lo hi : Option Int) : Rs RV := match a with
  | .d (.str z) => if z.length ≤ 1000000 then .ok (.d (.str (cutS z lo hi))) else .no
  | .d (.tuple xs) => .ok (.d (.tuple (cutL xs lo hi)))
  | a => (rsO a.qv).bind fun xs => .ok (.ol (cutL xs lo hi))
def rSlAll (K : PySem.W.Frag) : V → Option Int → Option Int → Hp → VK → Prop := fun x lo hi H Q => rSlS x lo hi H Q ∨ (rSlA K x lo hi H Q ∨ rSlL K x lo hi H Q)
theorem sl_all {X : Cx} : SlR X (rSlAll X.K) := SlR.or sl_str (SlR.or sl_tupA sl_list)
theorem s_sl {W : WX} {σ : L2.St} {F0 H0' : Hp} {lo hi : Option Int} {Q : VK} (gr : Grow F0 H0' F H) (h : RVok K H0' F H v r) (p : PostE K ca W σ F0 H0' Q (gSl r lo hi)) : rSlAll K v lo hi H Q := by
  unfold gSl at p
  split at p
  · cases h
    split at p
    · rename_i hz
      exact .inl ⟨_, rfl, Nat.le_of_lt (million hz), p F H _ gr (.str _)⟩
    · exact p.elim
  · rename_i xs
    obtain ⟨p1, vs, rfl, a1, a2, q1⟩ := tv_ok gr.cfg.sub h rfl
    refine .inr (.inl ⟨p1, vs, rfl, a1, fun e => ?_, fun e l hl => ?_⟩)
    · have ew : cutL xs lo hi = xs := by
        unfold cutL
        rw [q1.length] at e
        rw [e.1, e.2]
        simp
      exact p F H _ gr (by rw [ew]; exact .tup a2 q1)
    · have g2 := Grow.newF gr.cfg (.tup (cutV vs lo hi)) hl
      exact p _ _ _ (gr.trans g2) (.tup (.inl (.inl upd_same)) (DqA.mono g2.ff _ _ (cut_dq q1 lo hi)))
  · cases e : r.qv with
    | none => rw [e] at p; exact p.elim
    | some xs =>
      rw [e] at p
      obtain ⟨p1, vs, rfl, a1, q1⟩ := qv_ok gr.cfg.sub h e
      refine .inr (.inr ⟨p1, vs, rfl, a1, fun l hl => ?_⟩)
      have g2 := Grow.newO gr.cfg (.lst (cutV vs lo hi)) hl (fun _ z => by cases z)
      exact p _ _ _ (gr.trans g2) ⟨l, _, rfl, same_none gr.hh hl, same_none gr.cfg.sub hl, upd_same, cut_dq q1 lo hi⟩
end
end VL

namespace VL
open PySem PySem.Spec PyProof.Rows L2

/-! ## built-in functions -/
section
variable {K : PySem.W.Frag} {ca : Nat → Addr}
theorem pr1 {P : V → RV → Prop} {vs : List V} {r : RV} (h : Paired P vs [r]) : ∃ v, vs = [v] ∧ P v r := by
  cases h with
  | cons h1 h2 => cases h2; exact ⟨_, rfl, h1⟩
theorem pr2 {P : V → RV → Prop} {vs : List V} {r r' : RV} (h : Paired P vs [r, r']) : ∃ v w, vs = [v, w] ∧ P v r ∧ P w r' := by
  cases h with
  | cons h1 h2 => cases h2 with
    | cons h3 h4 => cases h4; exact ⟨_, _, rfl, h1, h3⟩
/-- a sequence that is read -/
theorem sq_ok {H0 F H : Hp} {v : V} {r : RV} {xs : List PyData} (s : Same F H) (h : RVok K H0 F H v r) (e : r.sq = some xs) : ∃ p vs, v = .ref p ∧ (SqL K H p vs ∨ SqT K H p vs) ∧ DqA K F vs xs := by
  by_cases ht : r.tv = some xs
  · obtain ⟨p1, vs, e1, a1, _, q1⟩ := tv_ok s h ht
    exact ⟨p1, vs, e1, .inr a1, q1⟩
  · have eq : r.qv = some xs := by
      unfold RV.sq at e
      split at e
      · exact absurd (by exact e) ht
      · exact e
    obtain ⟨p1, vs, e1, a1, q1⟩ := qv_ok s h eq
    exact ⟨p1, vs, e1, .inl a1, q1⟩
def gLen : List RV → Rs RV
  | [.d (.str z)] => if z.length ≤ 1000000 then okI z.length else .no
  | [.bd kvs] => okI kvs.length
  | [.od kvs] => okI kvs.length
  | [r] => (rsO r.sq).bind fun xs => okI xs.length
  | _ => .no
def rOrC (r r' : List V → Hp → VK → Prop) : List V → Hp → VK → Prop := fun xs H Q => r xs H Q ∨ r' xs H Q
abbrev rLenS (K : PySem.W.Frag) : List V → Hp → VK → Prop := fun xs H Q => ∃ p ys, xs = [.ref p] ∧ (SqL K H p ys ∨ SqT K H p ys) ∧ Q (.int ys.length) H
abbrev rLenT : List V → Hp → VK → Prop := fun xs H Q => ∃ z, xs = [.str z] ∧ z.length ≤ sizeLine ∧ Q (.int z.length) H
abbrev rLenD : List V → Hp → VK → Prop := fun xs H Q => ∃ p kvs, xs = [.ref p] ∧ H p = some (.dK kvs) ∧ Q (.int kvs.length) H
theorem call_lenD' {X : Cx} : CallR X (.builtin "len") rLenD := by
  intro pins s σ H xs us Q I r h
  obtain ⟨p, kvs, e, hp, q⟩ := h
  exact call_lenD pins s σ H xs us Q I r ⟨p, kvs, e, hp, q⟩
theorem call_lenA {X : Cx} : CallR X (.builtin "len") (fun xs H Q => rLenS X.K xs H Q ∨ (rLenT xs H Q ∨ rLenD xs H Q)) := CallR.or call_len_seq (CallR.or call_len_str call_lenD')
theorem KD.length {κ : Type} {F : Hp} : ∀ {a : List (κ × V)} {b : List (κ × PyData)}, KD K F a b → a.length = b.length := fun h => Paired.length h
theorem c_len : CaS K ca (fun xs H Q => rLenS K xs H Q ∨ (rLenT xs H Q ∨ rLenD xs H Q)) gLen := by
  intro W σ F0 H0 F H vs as Q gr h p
  unfold gLen at p
  split at p
  · obtain ⟨v, rfl, hx⟩ := pr1 h
    cases hx
    split at p
    · rename_i hz; exact .inr (.inl ⟨_, rfl, Nat.le_of_lt (million hz), p F H _ gr (.int _)⟩)
    · exact p.elim
  · obtain ⟨v, rfl, q, ks, rfl, hp, kd⟩ := pr1 h
    exact .inr (.inr ⟨q, ks, rfl, hp, by rw [kd.length]; exact p F H _ gr (.int _)⟩)
  · obtain ⟨v, rfl, q, ks, rfl, _, _, hp, kd⟩ := pr1 h
    exact .inr (.inr ⟨q, ks, rfl, hp, by rw [kd.length]; exact p F H _ gr (.int _)⟩)
  · rename_i r _ _ _
    obtain ⟨v, rfl, hx⟩ := pr1 h
    cases e : r.sq with
    | none => rw [e] at p; exact p.elim
    | some xs =>
      rw [e] at p
      obtain ⟨q, ws, rfl, hq, dq⟩ := sq_ok gr.cfg.sub hx e
      exact .inl ⟨q, ws, rfl, hq, by rw [dq.length]; exact p F H _ gr (.int _)⟩
  · exact p.elim
def gTupleC : List RV → Rs RV
  | [r] => (match r.tv with
    | some xs => .ok (.d (.tuple xs))
    | none => (rsO r.qv).bind fun xs => .ok (.d (.tuple xs)))
  | _ => .no
theorem c_tuple : CaS K ca (fun xs H Q => ∃ p ys, xs = [.ref p] ∧ ((SqL K H p ys ∧ ∀ l, H l = none → Q (.ref l) (upd H l (.tup ys))) ∨ (SqT K H p ys ∧ Q (.ref p) H))) gTupleC := by
  intro W σ F0 H0 F H vs as Q gr h p
  unfold gTupleC at p
  split at p
  · rename_i r
    obtain ⟨v, rfl, hx⟩ := pr1 h
    cases e : r.tv with
    | some xs =>
      rw [e] at p
      obtain ⟨q, ws, rfl, a1, a2, dq⟩ := tv_ok gr.cfg.sub hx e
      exact ⟨q, ws, rfl, .inr ⟨a1, p F H _ gr (.tup a2 dq)⟩⟩
    | none =>
      rw [e] at p
      simp only at p
      cases e2 : r.qv with
      | none => rw [e2] at p; exact p.elim
      | some xs =>
        rw [e2] at p
        obtain ⟨q, ws, rfl, a1, dq⟩ := qv_ok gr.cfg.sub hx e2
        refine ⟨q, ws, rfl, .inl ⟨a1, fun l hl => ?_⟩⟩
        have g2 := Grow.newF gr.cfg (.tup ws) hl
        exact p _ _ _ (gr.trans g2) (.tup (.inl (.inl upd_same)) (DqA.mono g2.ff _ _ dq))
  · exact p.elim
def gListC : List RV → Rs RV
  | [r] => (rsO r.sq).bind fun xs => .ok (.ol xs)
  | _ => .no
theorem c_list : CaS K ca (fun xs H Q => ∃ p ys, xs = [.ref p] ∧ (SqL K H p ys ∨ SqT K H p ys) ∧ ∀ l, H l = none → Q (.ref l) (upd H l (.lst ys))) gListC := by
  intro W σ F0 H0 F H vs as Q gr h p
  unfold gListC at p
  split at p
  · rename_i r
    obtain ⟨v, rfl, hx⟩ := pr1 h
    cases e : r.sq with
    | none => rw [e] at p; exact p.elim
    | some xs =>
      rw [e] at p
      obtain ⟨q, ws, rfl, hq, dq⟩ := sq_ok gr.cfg.sub hx e
      refine ⟨q, ws, rfl, hq, fun l hl => ?_⟩
      have g2 := Grow.newO gr.cfg (.lst ws) hl (fun _ z => by cases z)
      exact p _ _ _ (gr.trans g2) ⟨l, _, rfl, same_none gr.hh hl, same_none gr.cfg.sub hl, upd_same, dq⟩
  · exact p.elim
def gMin2 : List RV → Rs RV
  | [.d (.int i), .d (.int j)] => okI (if j < i then j else i)
  | _ => .no
def gMax2 : List RV → Rs RV
  | [.d (.int i), .d (.int j)] => okI (if j > i then j else i)
  | _ => .no
theorem c_min2 : CaS K ca (fun xs H Q => ∃ i j, xs = [.int i, .int j] ∧ Q (.int (if j < i then j else i)) H) gMin2 := by
  intro W σ F0 H0 F H vs as Q gr h p
  unfold gMin2 at p
  split at p
  · obtain ⟨v, w, rfl, h1, h2⟩ := pr2 h
    cases h1; cases h2
    exact ⟨_, _, rfl, p F H _ gr (.int _)⟩
  · exact p.elim
theorem c_max2 : CaS K ca (fun xs H Q => ∃ i j, xs = [.int i, .int j] ∧ Q (.int (if j > i then j else i)) H) gMax2 := by
  intro W σ F0 H0 F H vs as Q gr h p
  unfold gMax2 at p
  split at p
  · obtain ⟨v, w, rfl, h1, h2⟩ := pr2 h
    cases h1; cases h2
    exact ⟨_, _, rfl, p F H _ gr (.int _)⟩
  · exact p.elim
/-! ### lists of ints, of truth values -/
def intsD : List PyData → Option (List Int)
  | [] => some []
  | .int i :: xs => (intsD xs).map (i :: ·)
  | _ => none
def boolsD : List PyData → Option (List Bool)
  | [] => some []
  | .bool i :: xs => (boolsD xs).map (i :: ·)
  | _ => none
theorem ints_ok {F : Hp} : ∀ {xs : List PyData} {vs : List V} {ns : List Int}, DqA K F vs xs → intsD xs = some ns → vs = ns.map V.int
  | [], _, ns, h, e => by cases h; cases e; rfl
  | x :: xs, _, ns, h, e => by
    cases h with
    | cons h1 h2 =>
      cases x with
      | int i =>
        cases e2 : intsD xs with
        | none => simp [intsD, e2] at e
        | some ms => simp [intsD, e2] at e; subst e; cases h1; rw [ints_ok h2 e2]; rfl
      | _ => cases e
theorem bools_ok {F : Hp} : ∀ {xs : List PyData} {vs : List V} {ns : List Bool}, DqA K F vs xs → boolsD xs = some ns → vs = ns.map V.bl
  | [], _, ns, h, e => by cases h; cases e; rfl
  | x :: xs, _, ns, h, e => by
    cases h with
    | cons h1 h2 =>
      cases x with
      | bool i =>
        cases e2 : boolsD xs with
        | none => simp [boolsD, e2] at e
        | some ms => simp [boolsD, e2] at e; subst e; cases h1; rw [bools_ok h2 e2]; rfl
      | _ => cases e
@[simp] theorem intsD_map (ns : List Int) : intsD (ns.map .int) = some ns := by
  induction ns with
  | nil => rfl
  | cons i ns ih => simp [intsD, ih]
@[simp] theorem boolsD_map (ns : List Bool) : boolsD (ns.map .bool) = some ns := by
  induction ns with
  | nil => rfl
  | cons i ns ih => simp [boolsD, ih]
def ins (x : Int) : List Int → List Int
  | [] => [x]
  | y :: ys => if x ≤ y then x :: y :: ys else y :: ins x ys
def isort : List Int → List Int
  | [] => []
  | x :: xs => ins x (isort xs)
theorem ins_perm (x : Int) : ∀ ys, (ins x ys).Perm (x :: ys)
  | [] => .refl _
  | y :: ys => by
    unfold ins
    split
    · exact .refl _
    · exact ((ins_perm x ys).cons y).trans (.swap x y ys)
theorem isort_perm : ∀ xs, (isort xs).Perm xs
  | [] => .refl _
  | x :: xs => (ins_perm x _).trans ((isort_perm xs).cons x)
theorem ins_sorted (x : Int) : ∀ {ys : List Int}, ys.Pairwise (· ≤ ·) → (ins x ys).Pairwise (· ≤ ·)
  | [], _ => by simp [ins]
  | y :: ys, h => by
    have h1 := List.pairwise_cons.mp h
    unfold ins
    split
    · rename_i c
      refine List.pairwise_cons.mpr ⟨fun z hz => ?_, h⟩
      rcases List.mem_cons.mp hz with rfl | hz
      · exact c
      · exact Int.le_trans c (h1.1 z hz)
    · rename_i c
      refine List.pairwise_cons.mpr ⟨fun z hz => ?_, ins_sorted x h1.2⟩
      rcases List.mem_cons.mp ((ins_perm x ys).mem_iff.mp hz) with rfl | hz
      · omega
      · exact h1.1 z hz
theorem isort_sorted : ∀ xs, (isort xs).Pairwise (· ≤ ·)
  | [] => .nil
  | x :: xs => ins_sorted x (isort_sorted xs)
theorem sorted_uniq : ∀ {xs ys : List Int}, xs.Perm ys → xs.Pairwise (· ≤ ·) → ys.Pairwise (· ≤ ·) → xs = ys
  | [], ys, p, _, _ => (List.Perm.nil_eq p)
  | x :: xs, [], p, _, _ => by have := p.length_eq; simp at this
  | x :: xs, y :: ys, p, h1, h2 => by
    have a1 := List.pairwise_cons.mp h1
    have a2 := List.pairwise_cons.mp h2
    have e : x = y := by
      have m1 : x ∈ y :: ys := p.mem_iff.mp List.mem_cons_self
      have m2 : y ∈ x :: xs := p.mem_iff.mpr List.mem_cons_self
      rcases List.mem_cons.mp m1 with z | z
      · exact z
      · rcases List.mem_cons.mp m2 with z' | z'
        · exact z'.symm
        · have := a1.1 y z'; have := a2.1 x z; omega
    subst e
    rw [sorted_uniq ((List.perm_cons x).mp p) a1.2 a2.2]
def gSorted : List RV → Rs RV
  | [r] => (rsO r.qv).bind fun xs => (rsO (intsD xs)).bind fun ns => .ok (.ol ((isort ns).map .int))
  | _ => .no
theorem c_sorted : CaS K ca (rSortedI K) gSorted := by
  intro W σ F0 H0 F H vs as Q gr h p
  unfold gSorted at p
  split at p
  · rename_i r
    obtain ⟨v, rfl, hx⟩ := pr1 h
    cases e : r.qv with
    | none => rw [e] at p; exact p.elim
    | some xs =>
      rw [e] at p
      simp only [rsO_some, Rs.bind_ok] at p
      cases e2 : intsD xs with
      | none => rw [e2] at p; exact p.elim
      | some ns =>
        rw [e2] at p
        obtain ⟨q, ws, rfl, hq, dq⟩ := qv_ok gr.cfg.sub hx e
        have := ints_ok dq e2
        subst this
        refine ⟨q, ns, rfl, hq, fun ns' l pm so hl => ?_⟩
        have e3 : ns' = isort ns := sorted_uniq (pm.trans (isort_perm ns).symm) so (isort_sorted ns)
        subst e3
        have g2 := Grow.newO gr.cfg (.lst ((isort ns).map V.int)) hl (fun _ z => by cases z)
        exact p _ _ _ (gr.trans g2) ⟨l, _, rfl, same_none gr.hh hl, same_none gr.cfg.sub hl, upd_same, DqA.of_ints _⟩
  · exact p.elim
def gAny : List RV → Rs RV
  | [r] => (rsO r.qv).bind fun xs => (rsO (boolsD xs)).bind fun bs => okB (bs.any id)
  | _ => .no
def gAll : List RV → Rs RV
  | [r] => (rsO r.qv).bind fun xs => (rsO (boolsD xs)).bind fun bs => okB (bs.all id)
  | _ => .no
def gSum : List RV → Rs RV
  | [r] => (rsO r.qv).bind fun xs => (rsO (intsD xs)).bind fun bs => okI bs.sum
  | _ => .no
theorem c_any : CaS K ca (rAny K) gAny := by
  intro W σ F0 H0 F H vs as Q gr h p
  unfold gAny at p
  split at p
  · rename_i r
    obtain ⟨v, rfl, hx⟩ := pr1 h
    cases e : r.qv with
    | none => rw [e] at p; exact p.elim
    | some xs =>
      rw [e] at p
      simp only [rsO_some, Rs.bind_ok] at p
      cases e2 : boolsD xs with
      | none => rw [e2] at p; exact p.elim
      | some ns =>
        rw [e2] at p
        obtain ⟨q, ws, rfl, hq, dq⟩ := qv_ok gr.cfg.sub hx e
        have := bools_ok dq e2
        subst this
        exact ⟨q, ns, rfl, hq, p F H _ gr (.bl _)⟩
  · exact p.elim
theorem c_all : CaS K ca (rAll K) gAll := by
  intro W σ F0 H0 F H vs as Q gr h p
  unfold gAll at p
  split at p
  · rename_i r
    obtain ⟨v, rfl, hx⟩ := pr1 h
    cases e : r.qv with
    | none => rw [e] at p; exact p.elim
    | some xs =>
      rw [e] at p
      simp only [rsO_some, Rs.bind_ok] at p
      cases e2 : boolsD xs with
      | none => rw [e2] at p; exact p.elim
      | some ns =>
        rw [e2] at p
        obtain ⟨q, ws, rfl, hq, dq⟩ := qv_ok gr.cfg.sub hx e
        have := bools_ok dq e2
        subst this
        exact ⟨q, ns, rfl, hq, p F H _ gr (.bl _)⟩
  · exact p.elim
theorem c_sum : CaS K ca (rSum K) gSum := by
  intro W σ F0 H0 F H vs as Q gr h p
  unfold gSum at p
  split at p
  · rename_i r
    obtain ⟨v, rfl, hx⟩ := pr1 h
    cases e : r.qv with
    | none => rw [e] at p; exact p.elim
    | some xs =>
      rw [e] at p
      simp only [rsO_some, Rs.bind_ok] at p
      cases e2 : intsD xs with
      | none => rw [e2] at p; exact p.elim
      | some ns =>
        rw [e2] at p
        obtain ⟨q, ws, rfl, hq, dq⟩ := qv_ok gr.cfg.sub hx e
        have := ints_ok dq e2
        subst this
        exact ⟨q, ns, rfl, hq, p F H _ gr (.int _)⟩
  · exact p.elim
/-- the greatest, the least of a list of ints -/
def maxL : List Int → Option Int
  | [] => none
  | x :: xs => some (xs.foldl (fun a b => if b > a then b else a) x)
def minL : List Int → Option Int
  | [] => none
  | x :: xs => some (xs.foldl (fun a b => if b < a then b else a) x)
theorem fold_max (xs : List Int) : ∀ x, (xs.foldl (fun a b => if b > a then b else a) x) ∈ x :: xs ∧ ∀ y ∈ x :: xs, y ≤ xs.foldl (fun a b => if b > a then b else a) x := by
  induction xs with
  | nil => intro x; simp
  | cons z xs ih =>
    intro x
    simp only [List.foldl_cons]
    by_cases c : z > x
    · rw [if_pos c]
      obtain ⟨i1, i2⟩ := ih z
      refine ⟨List.mem_cons_of_mem _ i1, fun y hy => ?_⟩
      rcases List.mem_cons.mp hy with rfl | hy
      · have := i2 z List.mem_cons_self; omega
      · exact i2 y hy
    · rw [if_neg c]
      obtain ⟨i1, i2⟩ := ih x
      refine ⟨?_, fun y hy => ?_⟩
      · rcases List.mem_cons.mp i1 with e | e
        · rw [e]; exact List.mem_cons_self
        · exact List.mem_cons_of_mem _ (List.mem_cons_of_mem _ e)
      · rcases List.mem_cons.mp hy with rfl | hy
        · exact i2 y List.mem_cons_self
        · rcases List.mem_cons.mp hy with rfl | hy
          · have := i2 x List.mem_cons_self; omega
          · exact i2 y (List.mem_cons_of_mem _ hy)
theorem fold_min (xs : List Int) : ∀ x, (xs.foldl (fun a b => if b < a then b else a) x) ∈ x :: xs ∧ ∀ y ∈ x :: xs, xs.foldl (fun a b => if b < a then b else a) x ≤ y := by
  induction xs with
  | nil => intro x; simp
  | cons z xs ih =>
    intro x
    simp only [List.foldl_cons]
    by_cases c : z < x
    · rw [if_pos c]
      obtain ⟨i1, i2⟩ := ih z
      refine ⟨List.mem_cons_of_mem _ i1, fun y hy => ?_⟩
      rcases List.mem_cons.mp hy with rfl | hy
      · have := i2 z List.mem_cons_self; omega
      · exact i2 y hy
    · rw [if_neg c]
      obtain ⟨i1, i2⟩ := ih x
      refine ⟨?_, fun y hy => ?_⟩
      · rcases List.mem_cons.mp i1 with e | e
        · rw [e]; exact List.mem_cons_self
        · exact List.mem_cons_of_mem _ (List.mem_cons_of_mem _ e)
      · rcases List.mem_cons.mp hy with rfl | hy
        · exact i2 y List.mem_cons_self
        · rcases List.mem_cons.mp hy with rfl | hy
          · have := i2 x List.mem_cons_self; omega
          · exact i2 y (List.mem_cons_of_mem _ hy)
def gMax1 : List RV → Rs RV
  | [r] => (rsO r.qv).bind fun xs => (rsO (intsD xs)).bind fun bs => (rsO (maxL bs)).bind okI
  | _ => .no
def gMin1 : List RV → Rs RV
  | [r] => (rsO r.qv).bind fun xs => (rsO (intsD xs)).bind fun bs => (rsO (minL bs)).bind okI
  | _ => .no
theorem c_max1 : CaS K ca (rMax K) gMax1 := by
  intro W σ F0 H0 F H vs as Q gr h p
  unfold gMax1 at p
  split at p
  · rename_i r
    obtain ⟨v, rfl, hx⟩ := pr1 h
    cases e : r.qv with
    | none => rw [e] at p; exact p.elim
    | some xs =>
      rw [e] at p
      simp only [rsO_some, Rs.bind_ok] at p
      cases e2 : intsD xs with
      | none => rw [e2] at p; exact p.elim
      | some ns =>
        rw [e2] at p
        obtain ⟨q, ws, rfl, hq, dq⟩ := qv_ok gr.cfg.sub hx e
        have := ints_ok dq e2
        subst this
        cases ns with
        | nil => exact p.elim
        | cons n ns =>
          refine ⟨q, n :: ns, rfl, hq, by simp, fun m hm hle => ?_⟩
          have f := fold_max ns n
          have e3 : m = ns.foldl (fun a b => if b > a then b else a) n := by have := f.2 m hm; have := hle _ f.1; omega
          rw [e3]
          exact p F H _ gr (.int _)
  · exact p.elim
theorem c_min1 : CaS K ca (rMin K) gMin1 := by
  intro W σ F0 H0 F H vs as Q gr h p
  unfold gMin1 at p
  split at p
  · rename_i r
    obtain ⟨v, rfl, hx⟩ := pr1 h
    cases e : r.qv with
    | none => rw [e] at p; exact p.elim
    | some xs =>
      rw [e] at p
      simp only [rsO_some, Rs.bind_ok] at p
      cases e2 : intsD xs with
      | none => rw [e2] at p; exact p.elim
      | some ns =>
        rw [e2] at p
        obtain ⟨q, ws, rfl, hq, dq⟩ := qv_ok gr.cfg.sub hx e
        have := ints_ok dq e2
        subst this
        cases ns with
        | nil => exact p.elim
        | cons n ns =>
          refine ⟨q, n :: ns, rfl, hq, by simp, fun m hm hle => ?_⟩
          have f := fold_min ns n
          have e3 : m = ns.foldl (fun a b => if b < a then b else a) n := by have := f.2 m hm; have := hle _ f.1; omega
          rw [e3]
          exact p F H _ gr (.int _)
  · exact p.elim
/-- str(n), int(text) -/
def gStr : List RV → Rs RV
  | [.d (.int i)] => if i.natAbs.log2 < 1920 then .ok (.d (.str (toString i : String))) else .no
  | _ => .no
theorem c_str : CaS K ca (fun xs H Q => ∃ i, xs = [.int i] ∧ i.natAbs.log2 < 1920 ∧ Q (.str (toString i : String)) H) gStr := by
  intro W σ F0 H0 F H vs as Q gr h p
  unfold gStr at p
  split at p
  · obtain ⟨v, rfl, hx⟩ := pr1 h
    cases hx
    split at p
    · rename_i c; exact ⟨_, rfl, c, p F H _ gr (.str _)⟩
    · exact p.elim
  · exact p.elim
def gInt : List RV → Rs RV
  | [.d (.str a)] => (rsO (PySem.intText? a)).bind fun n => if a.length ≤ 640 then okI n else .no
  | _ => .no
theorem c_int : CaS K ca (fun xs H Q => ∃ a n, xs = [.str a] ∧ PySem.intText? a = some n ∧ a.length ≤ 640 ∧ Q (.int n) H) gInt := by
  intro W σ F0 H0 F H vs as Q gr h p
  unfold gInt at p
  split at p
  · rename_i a
    obtain ⟨v, rfl, hx⟩ := pr1 h
    cases hx
    cases e : PySem.intText? a with
    | none => rw [e] at p; exact p.elim
    | some n =>
      rw [e] at p
      simp only [rsO_some, Rs.bind_ok] at p
      split at p
      · rename_i c; exact ⟨_, _, rfl, e, c, p F H _ gr (.int _)⟩
      · exact p.elim
  · exact p.elim
end
section
variable {ca : Nat → Addr} {W : WX} {X : Cx} {a b e : Expr} {es : List Expr} {fa fb : VEnv → Rs RV} {pos : Pos}
/-! ### slices -/
structure VO (ca : Nat → Addr) (W : WX) (X : Cx) (e : Option Expr) (f : VEnv → Rs (Option Int)) : Prop where
  ex : ∃ t, PO X e t ∧ ∀ B F env σ H Q, StOk X.K B F env σ H → (∀ o, f env = .ok o → ∀ F' H', Grow F H F' H' → Q o H') → (∀ c fs, f env = .ex c fs → PostX X.K ca W σ F H c fs) → f env ≠ .no → t σ H Q
def oN : VEnv → Rs (Option Int) := fun _ => .ok none
def oS (f : VEnv → Rs RV) : VEnv → Rs (Option Int) := fun env => (f env).bind fun r => match r with
  | .d (.int i) => .ok (some i)
  | _ => .no
theorem vo_none : VO ca W X none oN := ⟨_, po_none, fun B F env σ H Q st p _ _ => p none rfl F H (Grow.refl st.cfg)⟩
theorem vo_some (h : VE ca W X e fa) : VO ca W X (some e) (oS fa) := by
  obtain ⟨t, pe, se⟩ := h
  refine ⟨_, po_some pe, fun B F env σ H Q st p px pn => ?_⟩
  show t σ H fun x H1 => ∃ i, x = .int i ∧ Q (some i) H1
  refine se B F env σ H _ st ?_
  unfold oS at p px pn
  cases e1 : fa env with
  | no => rw [e1] at pn; exact (pn rfl).elim
  | ex c fs => exact px c fs (by rw [e1]; rfl)
  | ok r =>
    rw [e1] at p pn
    intro F' H' v g q
    simp only [Rs.bind_ok] at p pn
    split at pn
    · rename_i i; cases q; exact ⟨i, rfl, p _ rfl F' H' g⟩
    · exact (pn rfl).elim
def cSl (f : VEnv → Rs RV) (l h : VEnv → Rs (Option Int)) : VEnv → Rs RV := fun env => (f env).bind fun r => (l env).bind fun lo => (h env).bind fun hi => gSl r lo hi
theorem ve_sl {lo hi : Option Expr} {p2 : Pos} {l h : VEnv → Rs (Option Int)} (he : VE ca W X e fa) (hl : VO ca W X lo l) (hh : VO ca W X hi h) : VE ca W X (.Subscript e (.Slice lo hi none p2) pos) (cSl fa l h) := by
  obtain ⟨t, pe, se⟩ := he
  obtain ⟨tl, pl, sl⟩ := hl
  obtain ⟨th, ph, sh⟩ := hh
  refine ⟨_, pe_slice sl_all pe pl ph, fun B F env σ H Q st p => ?_⟩
  show t σ H fun x H1 => tl σ H1 fun l H2 => th σ H2 fun u H3 => rSlAll X.K x l u H3 Q
  refine seqE (PostE X.K ca W σ F H Q) se st p (fun _ _ h => h) (fun h => h) fun r F1 H1 v p1 g1 q1 => ?_
  refine sl B F1 env σ H1 _ (st.grow g1) (fun o eo F2 H2 g2 => ?_) (fun c fs ex => ?_) (fun en => ?_)
  · rw [eo] at p1
    simp only [Rs.bind_ok] at p1
    refine sh B F2 env σ H2 _ ((st.grow g1).grow g2) (fun u eu F3 H3 g3 => ?_) (fun c fs ex => ?_) (fun en => ?_)
    · rw [eu] at p1
      exact s_sl ((g1.trans g2).trans g3) ((q1.grow g2).grow g3) p1
    · rw [ex] at p1; exact PostX.mono (g1.trans g2) p1
    · rw [en] at p1; exact p1
  · rw [ex] at p1; exact PostX.mono g1 p1
  · rw [en] at p1; exact p1
def gRev (r : RV) : Rs RV := (rsO r.qv).bind fun xs => .ok (.ol xs.reverse)
theorem ve_rev {k : Nat} {p1 p2 p3 : Pos} (he : VE ca W X e fa) : VE ca W X (.Subscript e (.Slice none none (some (.UnaryOp .USub (.Constant (.int 1) k p1) p2)) p3) pos) (c1 gRev fa) := by
  obtain ⟨t, pe, se⟩ := he
  refine ⟨_, pe_revL pe, fun B F env σ H Q st p => ?_⟩
  show t σ H fun x H1 => ∃ a xs, x = .ref a ∧ SqL X.K H1 a xs ∧ ∀ p, H1 p = none → Q (.ref p) (upd H1 p (.lst xs.reverse))
  refine seqE (PostE X.K ca W σ F H Q) se st p (fun _ _ h => h) (fun h => h) fun r F1 H1 v p1 g1 q1 => ?_
  unfold gRev at p1
  cases e1 : r.qv with
  | none => rw [e1] at p1; exact p1.elim
  | some xs =>
    rw [e1] at p1
    obtain ⟨q, ws, rfl, hq, dq⟩ := qv_ok g1.cfg.sub q1 e1
    refine ⟨q, ws, rfl, hq, fun l hl => ?_⟩
    have g2 := Grow.newO g1.cfg (.lst ws.reverse) hl (fun _ z => by cases z)
    exact p1 _ _ _ (g1.trans g2) ⟨l, _, rfl, same_none g1.hh hl, same_none g1.cfg.sub hl, upd_same, dq.rev⟩
/-! ### isinstance(e, T), T a built-in class -/
def tyD : PyData → Option String
  | .none => some "NoneType"
  | .bool _ => some "bool"
  | .int _ => some "int"
  | .str _ => some "str"
  | .list _ => some "list"
  | .tuple _ => some "tuple"
  | .dict _ => none
def gIsi (T : String) (r : RV) : Rs RV := (rsO (r.data.bind tyD)).bind fun t => (rsO (kitB t T)).bind okB
theorem ty_ok {K : PySem.W.Frag} {H0 F H : Hp} {v : V} {r : RV} {t : String} (s : Same F H) (h : RVok K H0 F H v r) (e : r.data.bind tyD = some t) : TyX K H v (.type t) := by
  have lst : ∀ p vs, SqL K H p vs → TyX K H (.ref p) (.type "list") := fun p vs h => by
    rcases h with (h | ⟨o, h⟩) | ⟨o, its, n, hk, hc, _⟩
    · exact .base (.lst h)
    · exact .base (.frz h)
    · exact .kList hk hc
  have tup : ∀ p vs, SqT K H p vs → TyX K H (.ref p) (.type "tuple") := fun p vs h => by
    rcases h with (h | ⟨o, h⟩) | ⟨o, its, n, hk, hc, _⟩
    · exact .base (.tup h)
    · exact .fTuple h
    · exact .kTuple hk hc
  cases r with
  | d x =>
    cases x with
    | none => cases e; cases h; exact .base .non
    | bool b => cases e; cases h; exact .base (.bl _)
    | int b => cases e; cases h; exact .base (.int _)
    | str b => cases e; cases h; exact .base (.str _)
    | list xs => cases e; cases h with
      | lst h1 h2 => exact lst _ _ (SqL.of (s _ _ h1))
    | tuple xs => cases e; cases h with
      | tup h1 h2 => exact tup _ _ (same_seqT s h1)
    | dict kvs => cases e
  | ol xs => cases e; obtain ⟨p, vs, rfl, _, _, hp, _⟩ := h; exact lst _ _ (SqL.of hp)
  | bl xs => cases e; obtain ⟨p, vs, rfl, hp, _⟩ := h; exact lst _ _ (SqL.of hp)
  | sc ns => cases e; obtain ⟨p, rfl, hp⟩ := h; exact lst _ _ (s.seq hp)
  | _ => cases e
theorem ve_isi {T : Str} {T' : String} {p p2 : Pos} (hg : Gl X "isinstance") (hm : X.mg "isinstance" = none) (hg2 : Gl X T) (hm2 : X.mg T = none) (hv : bootBuiltins T = some (.type T')) (he : VE ca W X e fa) (hn2 : T ≠ "__name__" := by decide) (hd2 : (T == ("__debug__" : Str)) = false := by decide)
    (hs : starEach [e, .Name T p2] X.env = (false, eval e X.env) :: starEach [.Name T p2] X.env := by rfl) (hs2 : starEach [.Name T p2] X.env = (false, eval (.Name T p2) X.env) :: starEach [] X.env := by rfl) (hpl : (backTo pos (starEach [.Name T p2] X.env)).any (·.1) = false := by rfl) :
    VE ca W X (.Call (.Name "isinstance" p) [e, .Name T p2] [] pos) (c1 (gIsi T') fa) := by
  obtain ⟨t, pe, se⟩ := he
  refine ⟨_, pe_callB call_isi hg hm (by decide +kernel) (pa_cons pe (pa_cons (pe_bltn (v := .ty T') hg2 hm2 hv rfl hn2 hd2) pa_nil hs2) hs) (by decide) (by decide) hs hpl, fun B F env σ H Q st q => ?_⟩
  show t σ H fun x H1 => rIsi X.K [x, .ty T'] H1 Q
  refine seqE (PostE X.K ca W σ F H Q) se st q (fun _ _ h => h) (fun h => h) fun r F1 H1 v p1 g1 q1 => ?_
  unfold gIsi at p1
  cases e1 : r.data.bind tyD with
  | none => rw [e1] at p1; exact p1.elim
  | some ty =>
    rw [e1] at p1
    simp only [rsO_some, Rs.bind_ok] at p1
    cases e2 : kitB ty T' with
    | none => rw [e2] at p1; exact p1.elim
    | some k => rw [e2] at p1; exact ⟨v, .ty T', .type ty, .type T', k, rfl, .ty T', ty_ok g1.cfg.sub q1 e1, kit_ty e2, p1 F1 H1 _ g1 (.bl _)⟩
/-! ### range with a step of -1 -/
def gR3 : List RV → Rs (List PyData)
  | [.d (.int i), .d (.int j), .d (.int c)] => if c = -1 ∧ i.natAbs ≤ 1000000 ∧ j.natAbs ≤ 1000000 then .ok ((List.range (i - j).toNat).map fun k : Nat => .int (i - (k : Int))) else .no
  | _ => .no
theorem jw_rngc {G : Hp} (lo : Int) (n : Nat) : JWalk (Itc lo (-1) n) G ((List.range n).map fun i : Nat => V.int (lo - (i : Int))) where
  go := fun i H s hi => by
    have hi' : i < n := by simpa using hi
    exact hi'
  yld := fun i H x H' s y hi => by
    have hi' : i < n := by simpa using hi
    refine ⟨y.1, ?_⟩
    rw [y.2, List.getElem?_map, List.getElem?_range hi']
    show some (V.int (lo - (i : Int))) = some (V.int (lo + (i : Int) * -1))
    congr 2
    omega
  stop := fun H s => by show n ≤ _; simp
theorem vi_range3 {c tg : Expr} {p pos : Pos} {f : VEnv → Rs (List RV)} (hg : Gl X "range") (hm : X.mg "range" = none) (ha : VA ca W X [a, b, c] f)
    (hs : starEach [a, b, c] X.env = (false, eval a X.env) :: starEach [b, c] X.env := by rfl) (hpl : (backTo pos (starEach [b, c] X.env)).any (·.1) = false := by rfl) : VI ca W X tg (.Call (.Name "range" p) [a, b, c] [] pos) (iR gR3 f) := by
  obtain ⟨t, pa, sa⟩ := ha
  refine ⟨_, pi_range3 hg hm pa hs hpl, fun B F env σ H R st q => ?_⟩
  show t σ H fun vs H1 => ∃ (i j c : Int) (n : Nat), vs = [.int i, .int j, .int c] ∧ RgC i j c n ∧ R (Itc i c n) H1
  refine seqA (PostI X.K ca W σ F H R) sa st q (fun _ _ h => h) (fun h => h) fun rs F1 H1 vs p1 g1 q1 => ?_
  unfold gR3 at p1
  split at p1
  · rename_i i j c
    split at p1
    · rename_i hj
      cases q1 with
      | cons h1 h2 =>
        cases h2 with
        | cons h3 h4 =>
          cases h4 with
          | cons h5 h6 =>
            cases h6
            cases h1; cases h3; cases h5
            obtain ⟨rfl, k1, k2⟩ := hj
            refine ⟨i, j, -1, _, rfl, RgC.neg (by omega) (by omega) (by omega) (by omega), p1 _ F1 H1 _ g1 ?_ (jw_rngc i _)⟩
            have := DqA.of_ints (K := X.K) (F := F1) ((List.range (i - j).toNat).map fun k : Nat => i - (k : Int))
            rw [List.map_map, List.map_map] at this
            exact this
    · exact p1.elim
  · exact p1.elim
end
end VL

namespace VL
open PySem PySem.Spec PyProof.Rows L2

/-! ## writes to a list of one's own -/
section
variable {K : PySem.W.Frag} {ca : Nat → Addr} {W : WX} {B : Base} {F H : Hp} {env : VEnv} {σ : L2.St}
theorem own_xd {K : PySem.W.Frag} {H0 F H : Hp} {p : Addr} {r : RV} {xs : List (Str × V)} (o : r.own = true) (h : RVok K H0 F H (.ref p) r) (hx : H p = some (.xd xs)) : False := by
  cases r with
  | ol ys => obtain ⟨a, ws, z, _, _, h2, _⟩ := h; cases z; rw [hx] at h2; cases h2
  | od ys => obtain ⟨a, ws, z, _, _, h2, _⟩ := h; cases z; rw [hx] at h2; cases h2
  | ot ys =>
    obtain ⟨a, ws, z, _, _, h2, _⟩ := h; cases z; rw [hx] at h2
    have h3 := Option.some.inj h2
    have h4 : HO.xd xs = HO.ext _ := h3
    cases h4
  | _ => cases o
theorem StOk.ownAt (st : StOk K B F env σ H) {i : Nat} {xs : List PyData} (e : env[i]? = some (some (.ol xs))) : ∃ p vs, σ[i]? = some (some (.ref p)) ∧ B.H p = none ∧ F p = none ∧ H p = some (.lst vs) ∧ DqA K F vs xs := by
  obtain ⟨v, e1, p, vs, rfl, q⟩ := st.sl i _ e
  exact ⟨p, vs, e1, q⟩
theorem StOk.write (st : StOk K B F env σ H) {i : Nat} {r0 r1 : RV} {p : Addr} {o o' : HO} (e : env[i]? = some (some r0)) (ow : r0.own = true) (es : σ[i]? = some (some (.ref p))) (hp : H p = some o) (n0 : B.H p = none) (f0 : F p = none) (nt : ∀ xs, o' ≠ .tup xs)
    (ok : RVok K B.H F (upd H p o') (.ref p) r1) (ob : r1.isB = false) : StOk K B F (env.set i (some r1)) σ (upd H p o') := by
  have hi : i < env.length := (List.getElem?_eq_some_iff.mp e).1
  refine ⟨st.gr.write n0 f0 hp nt, by simpa using st.len, fun j r ej => ?_, fun j r a ej o z => ?_, fun j k r r' a jk e1 e2 o1 o2 z1 z2 => ?_⟩
  · by_cases h : i = j
    · subst h
      rw [List.getElem?_set_self hi] at ej
      cases ej
      exact ⟨_, es, ok⟩
    · rw [List.getElem?_set_ne h] at ej
      obtain ⟨w, ew, q⟩ := st.sl j r ej
      refine ⟨w, ew, ?_⟩
      have ne : ∀ a, r.own = true → w = .ref a → a ≠ p := fun a o z y => by
        subst y; subst z
        exact st.dis i j r0 r a h e ej ow o es ew
      have nb : ∀ a, r.isB = true → w = .ref a → a ≠ p := fun a o z y => by
        subst y; subst z
        obtain ⟨ob, hb⟩ := st.bo j r a ej o ew
        rw [n0] at hb; cases hb
      cases r with
      | d x => exact q
      | ol ys => obtain ⟨a, ws, z, n, f2, h2, q4⟩ := q; exact ⟨a, ws, z, n, f2, by rw [upd_ne (ne a rfl z)]; exact h2, q4⟩
      | od ys => obtain ⟨a, ws, z, n, f2, h2, q4⟩ := q; exact ⟨a, ws, z, n, f2, by rw [upd_ne (ne a rfl z)]; exact h2, q4⟩
      | ot ys => obtain ⟨a, ws, z, n, f2, h2, q4⟩ := q; exact ⟨a, ws, z, n, f2, by rw [upd_ne (ne a rfl z)]; exact h2, q4⟩
      | sc ns => exact q
      | bl ys => obtain ⟨a, ws, z, h2, q4⟩ := q; exact ⟨a, ws, z, by rw [upd_ne (nb a rfl z)]; exact h2, q4⟩
      | bd ys => obtain ⟨a, ws, z, h2, q4⟩ := q; exact ⟨a, ws, z, by rw [upd_ne (nb a rfl z)]; exact h2, q4⟩
      | bt ys => obtain ⟨a, ws, z, h2, q4⟩ := q; exact ⟨a, ws, z, by rw [upd_ne (nb a rfl z)]; exact h2, q4⟩
      | xo a dd c fs =>
        obtain ⟨z, ws, h2, q4⟩ := q
        have hne : dd ≠ p := fun y => by
          subst y
          obtain ⟨v0, ev0, q0⟩ := st.sl i r0 e
          rw [es] at ev0
          cases ev0
          exact own_xd ow q0 h2
        exact ⟨z, ws, by rw [upd_ne hne]; exact h2, q4⟩
  · by_cases h : i = j
    · subst h
      rw [List.getElem?_set_self hi] at ej
      cases ej
      rw [ob] at o; cases o
    · rw [List.getElem?_set_ne h] at ej
      exact st.bo j r a ej o z
  · have own : ∀ (j : Nat) (r : RV), (env.set i (some r1))[j]? = some (some r) → r.own = true → ∃ r', env[j]? = some (some r') ∧ r'.own = true := fun j r ej o => by
      by_cases h : i = j
      · subst h; exact ⟨r0, e, ow⟩
      · rw [List.getElem?_set_ne h] at ej; exact ⟨r, ej, o⟩
    obtain ⟨s1, f1, g1⟩ := own j r e1 o1
    obtain ⟨s2, f2, g2⟩ := own k r' e2 o2
    exact st.dis j k s1 s2 a jk f1 f2 g1 g2 z1 z2
end
section
variable {ca : Nat → Addr} {W : WX} {X : Cx} {a b e : Expr} {es : List Expr} {fa fb : VEnv → Rs RV} {pos : Pos}
/-- xs.append(e), xs a list of the def's own -/
def sApp (i : Nat) (fe : VEnv → Rs RV) : VEnv → Out := fun env => match env[i]? with
  | some (some (.ol xs)) => (fe env).out env fun r => match r.toD with
    | some d => if xs.length ≤ 1000000 then .nx (env.set i (some (.ol (xs ++ [d])))) else .no
    | none => .no
  | _ => .no
theorem vs_app (i : Nat) {x : Str} {p1 p2 p3 : Pos} (he : VE ca W X e fa) (hN : X.N[i]? = some x := by rfl) (hv : Vis X.env.scope x := by first | exact Or.inl rfl | exact Or.inr (Or.inl rfl) | exact Or.inr (Or.inr rfl)) (hd : (x == ("__debug__" : Str)) = false := by decide) (hcd : (x == ("__classdict__" : Str)) = false := by decide)
    (hbase : attributeBase (.Name x p1) "append" X.env (eval (.Name x p1) X.env) = eval (.Name x p1) X.env := by rfl)
    (hfew : ((backTo p3 (starEach (e :: []) X.env)).all (fun x => !x.1) && (backToKw p3 (keywordEach [] X.env)).all (fun x => x.1.isSome)
      && decide ((e :: []).length + ([] : List Keyword).length + (if ([] : List Keyword).isEmpty then 0 else 1) < 30)) = true := by rfl)
    (hline : (p2.endLine == p3.line) = true := by rfl) (hs : starEach (e :: []) X.env = (false, eval e X.env) :: starEach [] X.env := by rfl) (hplain : (backTo p3 (starEach [] X.env)).any (·.1) = false := by rfl)
    (hsw : swapsWith (.Call (.Attribute (.Name x p1) "append" p2) [e] [] p3) none pos.line X.env = pure false := by rfl) :
    VS ca W X (.Expr (.Call (.Attribute (.Name x p1) "append" p2) [e] [] p3) pos) (sApp i fa) := by
  obtain ⟨t, pe, se⟩ := he
  refine ⟨_, ps_expr (pe_bm PySem.F.plainAttrs_list PySem.F.slot_list_append PySem.F.type_list_append mt_append (pe_var hN hv hd hcd) (pa_cons pe pa_nil hs) hbase hfew hline hs hplain) hsw, fun B F env σ H D st p => ?_⟩
  show ∃ v, σ[i]? = some (some v) ∧ (tyV X.K "list" v H ∧ t σ H fun y H1 => rAppend v [y] H1 fun _ H2 => D.nx σ H2)
  unfold sApp at p
  split at p
  · rename_i xs e1
    obtain ⟨a, vs, s1, n0, f0, hp, q⟩ := st.ownAt e1
    refine ⟨.ref a, s1, .inl ⟨rfl, vs, SqL.of hp⟩, ?_⟩
    refine outE se st p fun r F1 H1 v p1 g q1 => ?_
    cases e2 : r.toD with
    | none => rw [e2] at p1; exact p1.elim
    | some d =>
      rw [e2] at p1
      simp only at p1
      split at p1
      · rename_i hz
        obtain ⟨F2, g2, s2, q2⟩ := frz g (Fz.of q1 e2)
        have st2 := st.grow g2
        have hp2 := g2.hh _ _ hp
        have f2 := g2.stillFree f0 hp
        have q3 : DqA X.K F2 (vs ++ [v]) (xs ++ [d]) := (DqA.mono g2.ff _ _ q).append (.cons q2 .nil)
        refine ⟨a, vs, v, rfl, rfl, hp2, by rw [q.length]; exact million hz, ?_⟩
        exact p1 F2 σ _ s2 (st2.write (r1 := .ol (xs ++ [d])) e1 rfl s1 hp2 n0 f2 (fun _ z => by cases z) ⟨a, _, rfl, n0, f2, upd_same, q3⟩ rfl)
      · exact p1.elim
  · exact p.elim
/-- xs.pop() as a statement -/
def sPop (i : Nat) : VEnv → Out := fun env => match env[i]? with
  | some (some (.ol xs)) => if xs = [] then .no else .nx (env.set i (some (.ol xs.dropLast)))
  | _ => .no
/-- xs[i] = e -/
def sStore (i : Nat) (fi fe : VEnv → Rs RV) : VEnv → Out := fun env => match env[i]? with
  | some (some (.ol xs)) => (fe env).out env fun r => (fi env).out env fun ix => match r.toD, ix with
    | some d, .d (.int k) => (match ixN xs.length k with
      | some j => .nx (env.set i (some (.ol (xs.set j d))))
      | none => .no)
    | _, _ => .no
  | _ => .no
theorem vs_store (i : Nat) {x : Str} {ie : Expr} {p1 p2 : Pos} {fi : VEnv → Rs RV} (he : VE ca W X e fa) (hi : VE ca W X ie fi) (hN : X.N[i]? = some x := by rfl) (hv : Vis X.env.scope x := by first | exact Or.inl rfl | exact Or.inr (Or.inl rfl) | exact Or.inr (Or.inr rfl)) (hd : (x == ("__debug__" : Str)) = false := by decide) (hcd : (x == ("__classdict__" : Str)) = false := by decide)
    (ha : ∀ v, assign (.Subscript (.Name x p1) ie p2) X.env v = (do
      let ov ← holding [v] (eval (.Name x p1) X.env)
      let iv ← holding [v, ov] (eval ie X.env)
      standAt p2
      holding [v, ov, iv] (setItem ov iv v)
      release [v, ov, iv] []) := by intro _; rfl)
    (hs : swapsWithSole [.Subscript (.Name x p1) ie p2] e pos.line X.env = pure false := by rfl) (hw : swappedStores [.Subscript (.Name x p1) ie p2] e X.env = pure none := by rfl)
    (h1 : (assignEach [.Subscript (.Name x p1) ie p2] X.env).map (·.2) = [assign (.Subscript (.Name x p1) ie p2) X.env] := by rfl) :
    VS ca W X (.Assign [.Subscript (.Name x p1) ie p2] e pos) (sStore i fi fa) := by
  obtain ⟨t, pe, se⟩ := he
  obtain ⟨ti, pi, si⟩ := hi
  refine ⟨_, ps_asg pe (pg_sub (pe_var hN hv hd hcd) pi set_list ha) hs hw h1, fun B F env σ H D st p => ?_⟩
  show t σ H fun v H1 => ∃ o, σ[i]? = some (some o) ∧ ti σ H1 fun iv H3 => rSetL o iv v H3 fun H4 => D.nx σ H4
  unfold sStore at p
  split at p
  · rename_i xs e1
    obtain ⟨a, vs, s1, n0, f0, hp, q⟩ := st.ownAt e1
    refine outE se st p fun r F1 H1 v p1 g q1 => ⟨_, s1, ?_⟩
    refine outE si (st.grow g) p1 fun ix F2 H2 w p2 g2 q2 => ?_
    cases e2 : r.toD with
    | none => rw [e2] at p2; exact p2.elim
    | some d =>
      rw [e2] at p2
      cases ix with
      | d y =>
        cases y with
        | int k =>
          simp only at p2
          cases e3 : ixN xs.length k with
          | none => rw [e3] at p2; exact p2.elim
          | some j =>
            rw [e3] at p2
            cases q2
            obtain ⟨F3, g3, s3, q3⟩ := frz (g.trans g2) (Fz.of (q1.grow g2) e2)
            have hp3 := g3.hh _ _ hp
            have f3 := g3.stillFree f0 hp
            refine ⟨a, vs, k, j, rfl, rfl, hp3, by rw [q.length]; exact e3, ?_⟩
            exact p2 F3 σ _ s3 ((st.grow g3).write (r1 := .ol (xs.set j d)) e1 rfl s1 hp3 n0 f3 (fun _ z => by cases z) ⟨a, _, rfl, n0, f3, upd_same, DqA.set q3 j (DqA.mono g3.ff _ _ q)⟩ rfl)
        | _ => exact p2.elim
      | _ => exact p2.elim
  · exact p.elim
/-- x += e, ints -/
def sAug (i : Nat) (g : RV → RV → Rs RV) (fe : VEnv → Rs RV) : VEnv → Out := fun env => match env[i]? with
  | some (some r0) => (fe env).out env fun r => (g r0.bor r).out env fun z => putS i z env
  | _ => .no
theorem vs_augI {i : Nat} {x : Str} {pos' : Pos} (hN : X.N.Nodup) (hi : X.N[i]? = some x) (hx : Loc X.env.scope x) (he : VE ca W X e fa) (hf : X.fn x = true ∨ X.env.scope.names.lookup x = some .local := by first | exact .inl rfl | exact .inr rfl | assumption) :
    VS ca W X (.AugAssign (.Name x pos') .Add e pos) (sAug i (RV.i2 fun i j => okI (i + j)) fa) := by
  obtain ⟨t, pe, se⟩ := he
  refine ⟨_, ps_aug hN hi hx pe ip_add hf, fun B F env σ H D st p => ?_⟩
  show ∃ x, σ[i]? = some (some x) ∧ t σ H fun y H1 => ∃ k l, x = .int k ∧ y = .int l ∧ D.nx (σ.set i (some (.int (k + l)))) H1
  unfold sAug at p
  split at p
  · rename_i r0 e1
    obtain ⟨v, e2, q0⟩ := st.sl i r0 e1
    refine ⟨v, e2, ?_⟩
    refine outE se st p fun r F1 H1 w p1 g q1 => ?_
    cases r0 with
    | d x0 => cases x0 with
      | int k => cases r with
        | d y => cases y with
          | int l =>
            cases q0; cases q1
            exact ⟨k, l, rfl, rfl, snd_put (r := .d (.int (k + l))) st g (.int _) p1⟩
          | _ => exact p1.elim
        | _ => exact p1.elim
      | _ => cases r <;> exact p1.elim
    | _ => exact p1.elim
  · exact p.elim
end

/-! ## the law's end -/
def spTrue (K : PySem.W.Frag) : Sp := fun vs H Q _ => ∃ (a : Addr) (ns : List Int), vs = [.ref a] ∧ SqL K H a (ns.map V.int) ∧ ns.length ≤ 63 ∧ ∀ H', Q (.bl true) H'
theorem law_true {K : PySem.W.Frag} {ca : Nat → Addr} {G : List RV → Rs RV} (h : ∀ ns : List Int, ns.length ≤ 63 → G [.sc ns] = .ok (.d (.bool true))) (vs : List V) (H : Hp) (Q : VK) (E : XK) (s : spTrue K vs H Q E) : spV K ca 1 G vs H Q E := by
  obtain ⟨a, ns, rfl, hS, hl, q⟩ := s
  refine ⟨rfl, H, [.sc ns], ⟨Same.refl _, fun _ _ e => e⟩, .cons ⟨a, rfl, hS⟩ .nil, ?_⟩
  rw [h ns hl]
  intro G' H' v g r
  cases r
  exact q H'
end VL

namespace VL
open PySem PySem.Spec PyProof.Rows L2

/-! ## reckoning with semantic functions -/
@[simp] theorem fin_nx (e) : (Out.nx e).fin = .ok (.d .none) := rfl
@[simp] theorem fin_rt (r) : (Out.rt r).fin = .ok r := rfl
@[simp] theorem fin_ex (c fs e) : (Out.ex c fs e).fin = .ex c fs := rfl
@[simp] theorem fin_no : Out.no.fin = .no := rfl
/-- a turn's end in a loop -/
def Out.lp : Out → (VEnv → Out) → Out
  | .nx e, k => k e
  | .ct e, k => k e
  | .bk e, _ => .nx e
  | o, _ => o
@[simp] theorem lp_nx (e k) : (Out.nx e).lp k = k e := rfl
@[simp] theorem lp_ct (e k) : (Out.ct e).lp k = k e := rfl
@[simp] theorem lp_bk (e k) : (Out.bk e).lp k = .nx e := rfl
@[simp] theorem lp_rt (r k) : (Out.rt r).lp k = .rt r := rfl
@[simp] theorem lp_ex (c fs e k) : (Out.ex c fs e).lp k = .ex c fs e := rfl
@[simp] theorem lp_no (k) : Out.no.lp k = .no := rfl
@[simp] theorem loopF_nil (tg f env) : loopF tg f [] env = .nx env := rfl
theorem loopF_cons (tg f x xs env) : loopF tg f (x :: xs) env = match tgE tg x env with
  | none => .no
  | some e1 => (f e1).lp (loopF tg f xs) := by
  unfold loopF
  cases tgE tg x env with
  | none => rfl
  | some e1 => cases h : f e1 <;> simp [h, Out.lp]
theorem loopW_succ (c f n env) : loopW c f (n + 1) env = (c env).out env fun b => if b = true then (f env).lp (loopW c f n) else .nx env := by
  unfold loopW
  cases c env with
  | ok b => cases b with
    | false => rfl
    | true => simp only [Rs.out_ok, if_true]; cases h : f env <;> simp [h, Out.lp]
  | ex c fs => rfl
  | no => rfl
/-- a loop by a relation of what it carries; i: the turns so far -/
theorem loopF_go {α β : Type} {tg : Tg} {f : VEnv → Out} (R : Nat → α → VEnv → Prop) (emb : β → PyData) (step : α → β → α) : ∀ (xs : List β) (j : Nat) (s : α) (env : VEnv),
    (∀ i s env x, xs[i]? = some x → R (j + i) s env → ∃ e1, tgE tg (emb x) env = some e1 ∧ ∃ env', (f e1 = .nx env' ∨ f e1 = .ct env') ∧ R (j + i + 1) (step s x) env') → R j s env → ∃ env', loopF tg f (xs.map emb) env = .nx env' ∧ R (j + xs.length) (xs.foldl step s) env'
  | [], j, s, env, _, h => ⟨env, rfl, h⟩
  | x :: xs, j, s, env, hs, h => by
    obtain ⟨e1, t1, env', fe, r⟩ := hs 0 s env x rfl h
    obtain ⟨env2, l2, r2⟩ := loopF_go R emb step xs (j + 1) (step s x) env' (fun i s env y hy => by
      have := hs (i + 1) s env y (by simpa using hy)
      rw [show j + (i + 1) = j + 1 + i by omega] at this
      exact this) r
    refine ⟨env2, ?_, ?_⟩
    · rw [List.map_cons, loopF_cons, t1]
      rcases fe with fe | fe <;> simp only [fe, Out.lp] <;> exact l2
    · rw [List.length_cons, show j + (xs.length + 1) = j + 1 + xs.length by omega]; exact r2
theorem loopF_rel {α β : Type} {tg : Tg} {f : VEnv → Out} (R : Nat → α → VEnv → Prop) (emb : β → PyData) (step : α → β → α) (xs : List β) (s : α) (env : VEnv)
    (h : ∀ i s env x, xs[i]? = some x → R i s env → ∃ e1, tgE tg (emb x) env = some e1 ∧ ∃ env', (f e1 = .nx env' ∨ f e1 = .ct env') ∧ R (i + 1) (step s x) env') (h0 : R 0 s env) : ∃ env', loopF tg f (xs.map emb) env = .nx env' ∧ R xs.length (xs.foldl step s) env' := by
  have := loopF_go R emb step xs 0 s env (fun i s env x hx r => by rw [Nat.zero_add] at r ⊢; exact h i s env x hx r) h0
  rw [Nat.zero_add] at this
  exact this
/-- .. with a return on the way -/
def foldU {α β γ : Type} (step : α → β → Sum α γ) : List β → α → Sum α γ
  | [], s => .inl s
  | x :: xs, s => match step s x with
    | .inl s' => foldU step xs s'
    | .inr r => .inr r
theorem loopF_retgo {α β : Type} {tg : Tg} {f : VEnv → Out} (R : Nat → α → VEnv → Prop) (emb : β → PyData) (step : α → β → Sum α RV) : ∀ (xs : List β) (j : Nat) (s : α) (env : VEnv),
    (∀ i s env x, xs[i]? = some x → R (j + i) s env → ∃ e1, tgE tg (emb x) env = some e1 ∧ match step s x with
      | .inl s' => ∃ env', (f e1 = .nx env' ∨ f e1 = .ct env') ∧ R (j + i + 1) s' env'
      | .inr r => f e1 = .rt r) → R j s env → match foldU step xs s with
      | .inl s' => ∃ env', loopF tg f (xs.map emb) env = .nx env' ∧ R (j + xs.length) s' env'
      | .inr r => loopF tg f (xs.map emb) env = .rt r
  | [], j, s, env, _, h => ⟨env, rfl, h⟩
  | x :: xs, j, s, env, hs, h => by
    obtain ⟨e1, t1, q⟩ := hs 0 s env x rfl h
    have e0 : loopF tg f ((x :: xs).map emb) env = (f e1).lp (loopF tg f (xs.map emb)) := by rw [List.map_cons, loopF_cons, t1]
    rw [e0]
    unfold foldU
    cases hst : step s x with
    | inr r => rw [hst] at q; simp only at q ⊢; rw [q]; rfl
    | inl s' =>
      rw [hst] at q
      simp only at q ⊢
      obtain ⟨env', fe, r⟩ := q
      have e2 : (f e1).lp (loopF tg f (xs.map emb)) = loopF tg f (xs.map emb) env' := by rcases fe with fe | fe <;> rw [fe] <;> rfl
      rw [e2, List.length_cons, show j + (xs.length + 1) = j + 1 + xs.length by omega]
      exact loopF_retgo R emb step xs (j + 1) s' env' (fun i s env y hy => by
        have := hs (i + 1) s env y (by simpa using hy)
        rw [show j + (i + 1) = j + 1 + i by omega] at this
        exact this) r
theorem loopF_ret {α β : Type} {tg : Tg} {f : VEnv → Out} (R : Nat → α → VEnv → Prop) (emb : β → PyData) (step : α → β → Sum α RV) (xs : List β) (s : α) (env : VEnv)
    (h : ∀ i s env x, xs[i]? = some x → R i s env → ∃ e1, tgE tg (emb x) env = some e1 ∧ match step s x with
      | .inl s' => ∃ env', (f e1 = .nx env' ∨ f e1 = .ct env') ∧ R (i + 1) s' env'
      | .inr r => f e1 = .rt r) (h0 : R 0 s env) : match foldU step xs s with
      | .inl s' => ∃ env', loopF tg f (xs.map emb) env = .nx env' ∧ R xs.length s' env'
      | .inr r => loopF tg f (xs.map emb) env = .rt r := by
  have := loopF_retgo R emb step xs 0 s env (fun i s env x hx r => by rw [Nat.zero_add] at r ⊢; exact h i s env x hx r) h0
  rw [Nat.zero_add] at this
  exact this
@[simp] theorem lcF_nil (tg t fe env) : lcF tg t fe env [] = .ok [] := rfl
/-- a comprehension -/
theorem lcF_map {β : Type} {tg : Tg} {t : VEnv → Rs Bool} {fe : VEnv → Rs RV} {env : VEnv} (emb : β → PyData) (p : β → Bool) (g : β → PyData) : ∀ (xs : List β),
    (∀ x ∈ xs, ∃ e1, tgE tg (emb x) env = some e1 ∧ t e1 = .ok (p x) ∧ (p x = true → ∃ r, fe e1 = .ok r ∧ r.toD = some (g x))) → lcF tg t fe env (xs.map emb) = .ok ((xs.filter p).map g)
  | [], _ => rfl
  | x :: xs, h => by
    obtain ⟨e1, t1, c1, f1⟩ := h x List.mem_cons_self
    have ih := lcF_map (tg := tg) (t := t) (fe := fe) (env := env) emb p g xs fun y hy => h y (List.mem_cons_of_mem _ hy)
    rw [List.map_cons]
    unfold lcF
    rw [t1]
    simp only
    rw [c1]
    cases hp : p x with
    | false => simp only; rw [ih, List.filter_cons_of_neg (by simp [hp])]
    | true =>
      obtain ⟨r, f2, f3⟩ := f1 hp
      simp only
      rw [f2]
      simp only
      rw [f3]
      simp only
      rw [ih, List.filter_cons_of_pos hp]
      rfl
end VL

namespace VL
open PySem PySem.Spec PyProof.Rows L2
section
variable (f g : VEnv → Out) (fa fb : VEnv → Rs RV) (fA : VEnv → Rs (List RV)) (tb tc : VEnv → Rs Bool) (env : VEnv) (i j : Nat) (x y : PyData) (xs ys : List PyData)
@[simp] theorem e_nil : sNil env = .nx env := rfl
@[simp] theorem e_seq : sSeq f g env = (f env).then g := rfl
@[simp] theorem e_fz : sFz i f env = f (fzE i env) := rfl
@[simp] theorem e_bk : sBk env = .bk env := rfl
@[simp] theorem e_ct : sCt env = .ct env := rfl
@[simp] theorem e_ret : sRet fa env = (fa env).out env fun r => (r.nb).out env .rt := rfl
@[simp] theorem e_retN : sRetN env = .rt (.d .none) := rfl
@[simp] theorem e_drop : sDrop fa env = (fa env).out env fun _ => .nx env := rfl
@[simp] theorem e_set : sSet i fa env = (fa env).out env fun r => putS i r env := rfl
@[simp] theorem e_if : sIf tb f g env = (tb env).out env fun b => if b = true then f env else g env := rfl
@[simp] theorem e_for (tg src) : sFor tg src f env = (src env).out env fun xs => loopF tg f xs env := rfl
@[simp] theorem e_cC : cC x env = .ok (.d x) := rfl
@[simp] theorem e_c2 (h) : c2 h fa fb env = (fa env).bind fun x => (fb env).bind fun y => h x y := rfl
@[simp] theorem e_c1 (h) : c1 h fa env = (fa env).bind h := rfl
@[simp] theorem e_cA (h) : cA h fA env = (fA env).bind h := rfl
@[simp] theorem e_aN : aN env = .ok [] := rfl
@[simp] theorem e_aC : aC fa fA env = (fa env).bind fun x => (fA env).bind fun xs => .ok (x :: xs) := rfl
@[simp] theorem e_cB : cB fa env = (fa env).bind asB := rfl
@[simp] theorem e_asB (b : Bool) : asB (.d (.bool b)) = .ok b := rfl
@[simp] theorem e_bNot : bNot tb env = (tb env).bind fun b => .ok (!b) := rfl
@[simp] theorem e_bAnd : bAnd tb tc env = (tb env).bind fun b => if b = true then tc env else .ok false := rfl
@[simp] theorem e_bOr : bOr tb tc env = (tb env).bind fun b => if b = true then .ok true else tc env := rfl
@[simp] theorem e_vAnd : vAnd fa fb env = (cB fa env).bind fun b => if b = true then fb env else .ok (.d (.bool false)) := rfl
@[simp] theorem e_vOr : vOr fa fb env = (cB fa env).bind fun b => if b = true then .ok (.d (.bool true)) else fb env := rfl
@[simp] theorem e_vNot : vNot fa env = (cB fa env).bind fun b => .ok (.d (.bool (!b))) := rfl
@[simp] theorem e_vIf : vIf tb fa fb env = (tb env).bind fun b => if b = true then fa env else fb env := rfl
@[simp] theorem e_bYes : bYes env = .ok true := rfl
@[simp] theorem e_iL : iL fa env = (fa env).bind gL := rfl
@[simp] theorem e_iT : iT fa env = (fa env).bind gT := rfl
@[simp] theorem e_iLb : iLb fa env = (fa env).bind gLb := rfl
@[simp] theorem e_iR (h) : iR h fA env = (fA env).bind h := rfl
@[simp] theorem e_gL1 : gL (.d (.list xs)) = .ok xs := rfl
@[simp] theorem e_gL2 : gL (.ol xs) = .ok xs := rfl
@[simp] theorem e_gL3 (ns) : gL (.sc ns) = .ok (ns.map .int) := rfl
@[simp] theorem e_gT : gT (.d (.tuple xs)) = .ok xs := rfl
@[simp] theorem e_gLb1 : gLb (.d (.list xs)) = .ok xs := rfl
@[simp] theorem e_gLb2 : gLb (.ol xs) = .ok xs := rfl
@[simp] theorem e_gLb3 : gLb (.bl xs) = .ok xs := rfl
@[simp] theorem e_gLb4 (ns) : gLb (.sc ns) = .ok (ns.map .int) := rfl
@[simp] theorem e_nb1 : (RV.d x).nb = .ok (.d x) := rfl
@[simp] theorem e_nb2 : (RV.ol xs).nb = .ok (.ol xs) := rfl
@[simp] theorem e_bor1 : (RV.d x).bor = .d x := rfl
@[simp] theorem e_bor2 : (RV.ol xs).bor = .bl xs := rfl
@[simp] theorem e_bor3 : (RV.bl xs).bor = .bl xs := rfl
@[simp] theorem e_bor4 (ns) : (RV.sc ns).bor = .sc ns := rfl
@[simp] theorem e_arg1 : (RV.d x).arg = .d x := rfl
@[simp] theorem e_arg2 : (RV.ol xs).arg = .d (.list xs) := rfl
@[simp] theorem e_arg3 : (RV.bl xs).arg = .bl xs := rfl
@[simp] theorem e_arg4 (ns) : (RV.sc ns).arg = .sc ns := rfl
@[simp] theorem e_putd : putS i (.d x) env = if i < env.length then .nx (env.set i (some (.d x))) else .no := rfl
@[simp] theorem e_puto : putS i (.ol xs) env = if i < env.length then .nx (env.set i (some (.ol xs))) else .no := rfl
@[simp] theorem e_toD1 : (RV.d x).toD = some x := rfl
@[simp] theorem e_toD2 : (RV.ol xs).toD = some (.list xs) := rfl
@[simp] theorem e_allD0 : allD [] = some [] := rfl
@[simp] theorem e_allD1 (rs) : allD (.d x :: rs) = (allD rs).map (x :: ·) := by cases h : allD rs <;> simp [allD, h]
@[simp] theorem e_allD2 (rs) : allD (.ol xs :: rs) = (allD rs).map (.list xs :: ·) := by cases h : allD rs <;> simp [allD, h]
@[simp] theorem e_gTupl (rs) : gTupl rs = (rsO (allD rs)).bind fun ds => if ds.length ≤ 1000 then .ok (.d (.tuple ds)) else .no := rfl
@[simp] theorem e_gList (rs) : gList rs = (rsO (allD rs)).bind fun ds => if ds.length ≤ 1000 then .ok (.ol ds) else .no := rfl
@[simp] theorem e_tgnm : tgE (.nm i) x env = if i < env.length then some (env.set i (some (.d x))) else none := rfl
@[simp] theorem e_tgtp (is) : tgE (.tp is) (.tuple xs) env = tgEs is xs env := rfl
@[simp] theorem e_tg0 : tgEs [] [] env = some env := rfl
@[simp] theorem e_tg1 (is) : tgEs (i :: is) (x :: xs) env = if i < env.length then tgEs is xs (env.set i (some (.d x))) else none := rfl
@[simp] theorem e_sq1 : (RV.d (.tuple xs)).sq = some xs := rfl
@[simp] theorem e_sq2 : (RV.d (.list xs)).sq = some xs := rfl
@[simp] theorem e_sq3 : (RV.ol xs).sq = some xs := rfl
@[simp] theorem e_sq4 : (RV.bl xs).sq = some xs := rfl
@[simp] theorem e_sq5 (ns) : (RV.sc ns).sq = some (ns.map .int) := rfl
@[simp] theorem e_qv2 : (RV.d (.list xs)).qv = some xs := rfl
@[simp] theorem e_qv3 : (RV.ol xs).qv = some xs := rfl
@[simp] theorem e_qv4 : (RV.bl xs).qv = some xs := rfl
@[simp] theorem e_qv5 (ns) : (RV.sc ns).qv = some (ns.map .int) := rfl
@[simp] theorem e_data1 : (RV.d x).data = some x := rfl
@[simp] theorem e_data2 : (RV.ol xs).data = some (.list xs) := rfl
@[simp] theorem e_data3 : (RV.bl xs).data = some (.list xs) := rfl
@[simp] theorem e_okI (a : Int) : okI a = .ok (.d (.int a)) := rfl
@[simp] theorem e_okB (a : Bool) : okB a = .ok (.d (.bool a)) := rfl
@[simp] theorem e_i2 (h : Int → Int → Rs RV) (a b : Int) : RV.i2 h (.d (.int a)) (.d (.int b)) = h a b := rfl
@[simp] theorem e_sub (a b : Int) : gSub (.d (.int a)) (.d (.int b)) = .ok (.d (.int (a - b))) := rfl
@[simp] theorem e_mul (a b : Int) : gMul (.d (.int a)) (.d (.int b)) = if a.natAbs < 18446744073709551616 ∨ b.natAbs < 18446744073709551616 then .ok (.d (.int (a * b))) else .no := rfl
@[simp] theorem e_mod (a b : Int) : gMod (.d (.int a)) (.d (.int b)) = if 0 < b then .ok (.d (.int (a % b))) else .no := rfl
@[simp] theorem e_div (a b : Int) : gDiv (.d (.int a)) (.d (.int b)) = if 0 < b ∧ b.natAbs < 1073741824 then .ok (.d (.int (a / b))) else .no := rfl
@[simp] theorem e_pow (a b : Int) : gPow (.d (.int a)) (.d (.int b)) = if 0 ≤ b ∧ b ≤ 1000000 ∧ a.natAbs < 2 ^ 64 then .ok (.d (.int (a ^ b.toNat))) else .no := rfl
@[simp] theorem e_lt (a b : Int) : gLt (.d (.int a)) (.d (.int b)) = .ok (.d (.bool (decide (a < b)))) := rfl
@[simp] theorem e_le (a b : Int) : gLe (.d (.int a)) (.d (.int b)) = .ok (.d (.bool (decide (a ≤ b)))) := rfl
@[simp] theorem e_gt (a b : Int) : gGt (.d (.int a)) (.d (.int b)) = .ok (.d (.bool (decide (b < a)))) := rfl
@[simp] theorem e_ge (a b : Int) : gGe (.d (.int a)) (.d (.int b)) = .ok (.d (.bool (decide (b ≤ a)))) := rfl
@[simp] theorem e_neg (a : Int) : gNeg (.d (.int a)) = .ok (.d (.int (-a))) := rfl
@[simp] theorem e_addI (a b : Int) : gAdd (.d (.int a)) (.d (.int b)) = .ok (.d (.int (a + b))) := rfl
@[simp] theorem e_addS (a b : Str) : gAdd (.d (.str a)) (.d (.str b)) = if a.length + b.length ≤ 1000000 then .ok (.d (.str (a ++ b))) else .no := rfl
@[simp] theorem e_addT : gAdd (.d (.tuple xs)) (.d (.tuple ys)) = if xs.length + ys.length ≤ 1000000 then .ok (.d (.tuple (xs ++ ys))) else .no := rfl
@[simp] theorem e_addL1 : gAdd (.ol xs) (.ol ys) = if xs.length + ys.length ≤ 1000000 then .ok (.ol (xs ++ ys)) else .no := rfl
@[simp] theorem e_addL2 : gAdd (.ol xs) (.bl ys) = if xs.length + ys.length ≤ 1000000 then .ok (.ol (xs ++ ys)) else .no := rfl
@[simp] theorem e_addL3 : gAdd (.bl xs) (.ol ys) = if xs.length + ys.length ≤ 1000000 then .ok (.ol (xs ++ ys)) else .no := rfl
@[simp] theorem e_addL4 : gAdd (.bl xs) (.bl ys) = if xs.length + ys.length ≤ 1000000 then .ok (.ol (xs ++ ys)) else .no := rfl
@[simp] theorem e_addL5 : gAdd (.d (.list xs)) (.ol ys) = if xs.length + ys.length ≤ 1000000 then .ok (.ol (xs ++ ys)) else .no := rfl
@[simp] theorem e_addL6 : gAdd (.d (.list xs)) (.bl ys) = if xs.length + ys.length ≤ 1000000 then .ok (.ol (xs ++ ys)) else .no := rfl
@[simp] theorem e_addL7 : gAdd (.ol xs) (.d (.list ys)) = if xs.length + ys.length ≤ 1000000 then .ok (.ol (xs ++ ys)) else .no := rfl
@[simp] theorem e_addL8 : gAdd (.bl xs) (.d (.list ys)) = if xs.length + ys.length ≤ 1000000 then .ok (.ol (xs ++ ys)) else .no := rfl
@[simp] theorem e_addL9 : gAdd (.d (.list xs)) (.d (.list ys)) = if xs.length + ys.length ≤ 1000000 then .ok (.ol (xs ++ ys)) else .no := rfl
@[simp] theorem e_eq (a b : RV) : gEq a b = (rsO a.data).bind fun x => (rsO b.data).bind fun y => if SeqAt.shaped x = true ∧ SeqAt.shaped y = true then okB (PyData.eqv x y) else .no := rfl
@[simp] theorem e_ne (a b : RV) : gNe a b = (rsO a.data).bind fun x => (rsO b.data).bind fun y => if SeqAt.shaped x = true ∧ SeqAt.shaped y = true then okB (!PyData.eqv x y) else .no := rfl
@[simp] theorem e_in (a b : RV) : gIn a b = (gInB a b).bind okB := rfl
@[simp] theorem e_notIn (a b : RV) : gNotIn a b = (gInB a b).bind fun k => okB (!k) := rfl
@[simp] theorem e_inT (a : Int) : gInB (.d (.int a)) (.d (.tuple xs)) = if SeqAt.shaped (.int a) = true ∧ SeqAt.shaped (.tuple xs) = true then .ok (xs.any fun z => PyData.eqv z (.int a)) else .no := rfl
@[simp] theorem e_inT2 : gInB (.d (.tuple ys)) (.d (.tuple xs)) = if SeqAt.shaped (.tuple ys) = true ∧ SeqAt.shaped (.tuple xs) = true then .ok (xs.any fun z => PyData.eqv z (.tuple ys)) else .no := rfl
@[simp] theorem e_inL1 : gInB (.d x) (.d (.list xs)) = if SeqAt.shaped x = true ∧ SeqAt.shaped (.list xs) = true then .ok (xs.any fun z => PyData.eqv z x) else .no := by cases x <;> rfl
@[simp] theorem e_inL2 : gInB (.d x) (.ol xs) = if SeqAt.shaped x = true ∧ SeqAt.shaped (.list xs) = true then .ok (xs.any fun z => PyData.eqv z x) else .no := by cases x <;> rfl
@[simp] theorem e_inL3 : gInB (.d x) (.bl xs) = if SeqAt.shaped x = true ∧ SeqAt.shaped (.list xs) = true then .ok (xs.any fun z => PyData.eqv z x) else .no := by cases x <;> rfl
@[simp] theorem e_is (a : RV) : gIs a (.d .none) = .ok (.d (.bool (isNone a))) := rfl
@[simp] theorem e_isNot (a : RV) : gIsNot a (.d .none) = .ok (.d (.bool (!isNone a))) := rfl
@[simp] theorem e_isN1 : isNone (.d .none) = true := rfl
@[simp] theorem e_isN2 (a : Int) : isNone (.d (.int a)) = false := rfl
@[simp] theorem e_isN3 : isNone (.d (.tuple xs)) = false := rfl
@[simp] theorem e_isN4 : isNone (.d (.list xs)) = false := rfl
@[simp] theorem e_isN5 : isNone (.ol xs) = false := rfl
@[simp] theorem e_isN6 : isNone (.bl xs) = false := rfl
@[simp] theorem e_isN7 (s) : isNone (.d (.str s)) = false := rfl
@[simp] theorem e_ixT (a : Int) : gIx (.d (.tuple xs)) (.d (.int a)) = (rsO (atI xs a)).bind fun d => .ok (.d d) := rfl
@[simp] theorem e_ixL (a : Int) : gIx (.d (.list xs)) (.d (.int a)) = (rsO (atI xs a)).bind fun d => .ok (.d d) := rfl
@[simp] theorem e_ixO (a : Int) : gIx (.ol xs) (.d (.int a)) = (rsO (atI xs a)).bind fun d => .ok (.d d) := rfl
@[simp] theorem e_ixB (a : Int) : gIx (.bl xs) (.d (.int a)) = (rsO (atI xs a)).bind fun d => .ok (.d d) := rfl
@[simp] theorem e_ixSc (a : Int) (ns) : gIx (.sc ns) (.d (.int a)) = (rsO (atI (ns.map .int) a)).bind fun d => .ok (.d d) := rfl
@[simp] theorem e_ixS (a : Int) (z : Str) : gIx (.d (.str z)) (.d (.int a)) = if z.length ≤ 1000000 then (rsO (atI z.cps.toList a)).bind fun c => .ok (.d (.str ⟨#[c]⟩)) else .no := rfl
@[simp] theorem e_lenT : gLen [.d (.tuple xs)] = .ok (.d (.int xs.length)) := rfl
@[simp] theorem e_lenL : gLen [.d (.list xs)] = .ok (.d (.int xs.length)) := rfl
@[simp] theorem e_lenO : gLen [.ol xs] = .ok (.d (.int xs.length)) := rfl
@[simp] theorem e_lenB : gLen [.bl xs] = .ok (.d (.int xs.length)) := rfl
@[simp] theorem e_lenSc (ns : List Int) : gLen [.sc ns] = .ok (.d (.int ns.length)) := by show okI _ = _; simp
@[simp] theorem e_lenS (z : Str) : gLen [.d (.str z)] = if z.length ≤ 1000000 then .ok (.d (.int z.length)) else .no := rfl
@[simp] theorem e_tupT : gTupleC [.d (.tuple xs)] = .ok (.d (.tuple xs)) := rfl
@[simp] theorem e_tupL : gTupleC [.d (.list xs)] = .ok (.d (.tuple xs)) := rfl
@[simp] theorem e_tupO : gTupleC [.ol xs] = .ok (.d (.tuple xs)) := rfl
@[simp] theorem e_tupB : gTupleC [.bl xs] = .ok (.d (.tuple xs)) := rfl
@[simp] theorem e_lisT : gListC [.d (.tuple xs)] = .ok (.ol xs) := rfl
@[simp] theorem e_lisL : gListC [.d (.list xs)] = .ok (.ol xs) := rfl
@[simp] theorem e_lisO : gListC [.ol xs] = .ok (.ol xs) := rfl
@[simp] theorem e_lisB : gListC [.bl xs] = .ok (.ol xs) := rfl
@[simp] theorem e_min2 (a b : Int) : gMin2 [.d (.int a), .d (.int b)] = .ok (.d (.int (if b < a then b else a))) := rfl
@[simp] theorem e_max2 (a b : Int) : gMax2 [.d (.int a), .d (.int b)] = .ok (.d (.int (if b > a then b else a))) := rfl
@[simp] theorem e_any (r : RV) : gAny [r] = (rsO r.qv).bind fun xs => (rsO (boolsD xs)).bind fun bs => okB (bs.any id) := rfl
@[simp] theorem e_all (r : RV) : gAll [r] = (rsO r.qv).bind fun xs => (rsO (boolsD xs)).bind fun bs => okB (bs.all id) := rfl
@[simp] theorem e_sum (r : RV) : gSum [r] = (rsO r.qv).bind fun xs => (rsO (intsD xs)).bind fun bs => okI bs.sum := rfl
@[simp] theorem e_sorted (r : RV) : gSorted [r] = (rsO r.qv).bind fun xs => (rsO (intsD xs)).bind fun ns => .ok (.ol ((isort ns).map .int)) := rfl
@[simp] theorem e_rev (r : RV) : gRev r = (rsO r.qv).bind fun xs => .ok (.ol xs.reverse) := rfl
theorem e_R1 {a : Int} (h : a.natAbs ≤ 1000000) : gR1 [.d (.int a)] = .ok (rngL 0 a.toNat) := if_pos h
theorem e_R1n {n : Nat} (h : n ≤ 1000000) : gR1 [.d (.int n)] = .ok (rngL 0 n) := e_R1 (a := (n : Int)) h
theorem e_R2 {a b : Int} (h : a.natAbs ≤ 1000000) (h2 : b.natAbs ≤ 1000000) : gR2 [.d (.int a), .d (.int b)] = .ok (rngL a (b - a).toNat) := if_pos ⟨h, h2⟩
theorem e_R3 {a b : Int} (h : a.natAbs ≤ 1000000) (h2 : b.natAbs ≤ 1000000) : gR3 [.d (.int a), .d (.int b), .d (.int (-1))] = .ok ((List.range (a - b).toNat).map fun k : Nat => .int (a - (k : Int))) := if_pos ⟨rfl, h, h2⟩
@[simp] theorem e_sl (l h) : cSl fa l h env = (fa env).bind fun r => (l env).bind fun lo => (h env).bind fun hi => gSl r lo hi := rfl
@[simp] theorem e_oN : oN env = .ok none := rfl
@[simp] theorem e_isi (T : String) (r : RV) : gIsi T r = (rsO (r.data.bind tyD)).bind fun t => (rsO (kitB t T)).bind okB := rfl
@[simp] theorem e_lc (src own tg t) : cLc src own tg t fa env = (src env).bind fun xs => if xs.length ≤ 1000000 then (lcF tg t fa (wipeE env own) xs).bind fun ds => .ok (.ol ds) else .no := rfl
@[simp] theorem e_wipe0 : wipeE env [] = env := rfl
@[simp] theorem e_wipe1 (is) : wipeE env (i :: is) = (wipeE env is).set i none := rfl
theorem e_unp (tg) : sUnp tg fa env = (fa env).out env fun r => match r.toD with
  | some x => (match tgE tg x env with | some env' => .nx env' | none => .no)
  | none => .no := rfl
theorem e_app : sApp i fa env = match env[i]? with
  | some (some (.ol xs)) => (fa env).out env fun r => (match r.toD with
    | some d => if xs.length ≤ 1000000 then .nx (env.set i (some (.ol (xs ++ [d])))) else .no
    | none => .no)
  | _ => .no := rfl
theorem e_V : cV i env = match env[i]? with
  | some (some r) => .ok r.bor
  | _ => .no := rfl
theorem e_retV : sRetV i env = match env[i]? with
  | some (some r) => (r.nb).out env .rt
  | _ => .no := rfl
end
/-! ### subscripts -/
theorem atI_lt {α : Type} {xs : List α} {i : Int} (h0 : 0 ≤ i) (h : i < xs.length) : atI xs i = xs[i.toNat]? := by
  unfold atI ixN
  rw [if_pos h0, if_pos h]
  rfl
@[simp] theorem atI_zero {α : Type} (x : α) (xs : List α) : atI (x :: xs) 0 = some x := by
  have h : 0 < (x :: xs).length := by simp
  rw [atI_lt (Int.le_refl 0) (by omega)]
  rfl
theorem rngL_eq (n : Nat) : rngL 0 n = (List.range n).map fun k : Nat => .int (k : Int) := by
  unfold rngL
  congr 1
  funext k
  simp
/-! ### shapes -/
@[simp] theorem sh_int (i : Int) : SeqAt.shaped (.int i) = true := rfl
@[simp] theorem sh_none : SeqAt.shaped .none = true := rfl
@[simp] theorem sh_bool (b : Bool) : SeqAt.shaped (.bool b) = true := rfl
theorem can_ints : ∀ ns : List Int, PyData.canLayAll0 (ns.map .int) = true
  | [] => rfl
  | n :: ns => can_ints ns
theorem dep_ints : ∀ ns : List Int, PyData.depthAll (ns.map .int) = 0
  | [] => rfl
  | n :: ns => by rw [List.map_cons, PyData.depthAll, PyData.depth, dep_ints ns]; rfl
@[simp] theorem sh_tup (ns : List Int) : SeqAt.shaped (.tuple (ns.map .int)) = true := by
  unfold SeqAt.shaped
  rw [PyData.depth, dep_ints, PyData.canLay0, can_ints]
  rfl
@[simp] theorem sh_lst (ns : List Int) : SeqAt.shaped (.list (ns.map .int)) = true := by
  unfold SeqAt.shaped
  rw [PyData.depth, dep_ints, PyData.canLay0, can_ints]
  rfl
@[simp] theorem eqv_int (i j : Int) : PyData.eqv (.int i) (.int j) = decide (i = j) := by
  rw [PyData.eqv]
  by_cases h : i = j <;> simp [h]
theorem eqvAll_ints : ∀ xs ys : List Int, PyData.eqvAll (xs.map .int) (ys.map .int) = decide (xs = ys)
  | [], [] => rfl
  | [], _ :: _ => rfl
  | _ :: _, [] => rfl
  | x :: xs, y :: ys => by
    rw [List.map_cons, List.map_cons, PyData.eqvAll, eqvAll_ints xs ys, eqv_int]
    by_cases h : x = y <;> by_cases h2 : xs = ys <;> simp [h, h2]
@[simp] theorem eqv_tup (xs ys : List Int) : PyData.eqv (.tuple (xs.map .int)) (.tuple (ys.map .int)) = decide (xs = ys) := by rw [PyData.eqv, eqvAll_ints]
@[simp] theorem eqv_lst (xs ys : List Int) : PyData.eqv (.list (xs.map .int)) (.list (ys.map .int)) = decide (xs = ys) := by rw [PyData.eqv, eqvAll_ints]
theorem anyI (ns : List Int) (i : Int) : ((ns.map PyData.int).any fun z => PyData.eqv z (.int i)) = decide (i ∈ ns) := by
  rw [List.any_map]
  induction ns with
  | nil => rfl
  | cons n ns ih =>
    rw [List.any_cons, ih]
    simp only [Function.comp, eqv_int]
    by_cases h : n = i
    · simp [h]
    · by_cases h2 : i ∈ ns <;> simp [h, h2, Ne.symm h]
@[simp] theorem anyI' (ns : List Int) (i : Int) : (ns.any ((fun z => PyData.eqv z (.int i)) ∘ PyData.int)) = decide (i ∈ ns) := by rw [← List.any_map]; exact anyI ns i
end VL

namespace VL
open PySem PySem.Spec PyProof.Rows L2
/-! ## more constructs -/
section
variable {K : PySem.W.Frag} {ca : Nat → Addr}
def gRep (a b : RV) : Rs RV := match b with
  | .d (.int k) => (rsO a.lv).bind fun xs => if k.natAbs ≤ 1000000 ∧ xs.length * k.toNat ≤ 1000000 then .ok (.ol (List.replicate k.toNat xs).flatten) else .no
  | _ => .no
theorem DqA.rep {F : Hp} {ds : List PyData} {vs : List V} (h : DqA K F vs ds) : ∀ k : Nat, DqA K F (List.replicate k vs).flatten (List.replicate k ds).flatten
  | 0 => .nil
  | k + 1 => by
    rw [List.replicate_succ, List.replicate_succ, List.flatten_cons, List.flatten_cons]
    exact h.append (DqA.rep h k)
theorem s_rep : Op2S K ca rRep gRep := by
  intro W σ F0 H0 F H v1 v2 a b Q gr h1 h2 p
  unfold gRep at p
  split at p
  · rename_i k
    cases h2
    cases e : a.lv with
    | none => rw [e] at p; exact p.elim
    | some xs =>
      rw [e] at p
      simp only [rsO_some, Rs.bind_ok] at p
      split at p
      · rename_i hk
        obtain ⟨p1, vs, rfl, a1, q1⟩ := lv_ok gr.cfg.sub h1 e
        refine ⟨p1, k, vs, rfl, rfl, a1, by omega, by omega, ?_, fun l hl => ?_⟩
        · rw [q1.length]; exact Nat.le_of_lt (million hk.2)
        · have g2 := Grow.newO gr.cfg (.lst (List.replicate k.toNat vs).flatten) hl (fun _ z => by cases z)
          exact p _ _ _ (gr.trans g2) ⟨l, _, rfl, same_none gr.hh hl, same_none gr.cfg.sub hl, upd_same, q1.rep k.toNat⟩
      · exact p.elim
  · exact p.elim
end
section
variable {ca : Nat → Addr} {W : WX} {X : Cx} {a b c e : Expr} {es : List Expr} {fa fb fc : VEnv → Rs RV} {pos : Pos} {st : Stmt}
def sNo : VEnv → Out := fun _ => .no
theorem vs_never : VS ca W X st sNo := ⟨_, ps_never, fun _ _ _ _ _ _ _ p => p.elim⟩
/-! ### a list or a tuple walked -/
def iAny (K : PySem.W.Frag) (tl : TE) : TI := fun σ H R => tl σ H fun x H1 => ∃ a, x = .ref a ∧ (((∃ xs, SqL K H1 a xs) ∧ R (Itl K a) H1) ∨ ((∃ xs, SqT K H1 a xs) ∧ R (Itt K a) H1))
theorem pi_any {tg : Expr} {tl : TE} (hl : PE X e tl) : PI X tg e (iAny X.K tl) := by
  refine ⟨fun pns s0 σ H R I hyp => ?_⟩
  refine thn (hl.run pns s0 σ H _ I hyp) fun v s1 ⟨x, H1, I1, r1, a, ex, alt⟩ => ?_
  subst ex
  cases r1
  have fresh : ∀ b ∈ [s1.heap.objs.size], b = s1.heap.objs.size := fun b hb => by simpa using hb
  rcases alt with ⟨⟨xs, hq⟩, q⟩ | ⟨⟨xs, hq⟩, q⟩
  · obtain ⟨its, rv, pl, hz⟩ := I1.list hq
    refine wpAny_pyIter_list pl.isList ⟨s1.heap.objs.size, [s1.heap.objs.size], _, _, H1, rfl, I1.kept (t' := s1.toks) fun _ _ k => Heap.get?_push_of_some _ k, turn_list a _, ⟨_, Heap.get?_push_size _ rfl, rfl, rfl⟩, fun b hb => ?_, q⟩
    have eb := fresh b hb
    subst eb
    exact I1.fpOk (Nat.le_refl _) (I1.hok.fresh (Nat.le_refl _))
  · obtain ⟨its, rv, pl, hz⟩ := I1.tuple hq
    have pt : s1.heap.IsTuple a its.toArray := pl
    refine wpAny_pyIter_tuple pt ⟨s1.heap.objs.size, [s1.heap.objs.size], _, _, H1, rfl, I1.kept (t' := s1.toks) fun _ _ k => Heap.get?_push_of_some _ k, turn_tuple a _, ⟨_, Heap.get?_push_size _ rfl, rfl, rfl⟩, fun b hb => ?_, q⟩
    have eb := fresh b hb
    subst eb
    exact I1.fpOk (Nat.le_refl _) (I1.hok.fresh (Nat.le_refl _))
def gAq : RV → Rs (List PyData)
  | .d (.tuple xs) => .ok xs
  | r => gL r
def gAqb : RV → Rs (List PyData)
  | .d (.tuple xs) => .ok xs
  | r => gLb r
def iA (fe : VEnv → Rs RV) : VEnv → Rs (List PyData) := fun env => (fe env).bind gAq
def iAb (fe : VEnv → Rs RV) : VEnv → Rs (List PyData) := fun env => (fe env).bind gAqb
theorem vi_any {tg : Expr} (h : VE ca W X e fa) : VI ca W X tg e (iA fa) := by
  obtain ⟨t, p, s⟩ := h
  refine ⟨_, pi_any p, fun B F env σ H R st q => ?_⟩
  show t σ H fun x H1 => ∃ a, x = .ref a ∧ (((∃ xs, SqL X.K H1 a xs) ∧ R (Itl X.K a) H1) ∨ ((∃ xs, SqT X.K H1 a xs) ∧ R (Itt X.K a) H1))
  refine seqE (PostI X.K ca W σ F H R) s st q (fun _ _ h => h) (fun h => h) fun r F1 H1 v p1 g1 q1 => ?_
  cases r with
  | d x =>
    cases x with
    | list xs =>
      cases q1 with
      | lst h1 h2 => exact ⟨_, rfl, .inl ⟨⟨_, SqL.of (g1.cfg.sub _ _ h1)⟩, p1 _ F1 H1 _ g1 h2 (jw_list (SqL.of h1))⟩⟩
    | tuple xs =>
      cases q1 with
      | tup h1 h2 => exact ⟨_, rfl, .inr ⟨⟨_, same_seqT g1.cfg.sub h1⟩, p1 _ F1 H1 _ g1 h2 (jw_tup h1)⟩⟩
    | _ => exact p1.elim
  | ol xs =>
    obtain ⟨p, vs, rfl, n0, f, hp, q2⟩ := q1
    have g2 := g1.freeze n0 f hp
    have s2 : Same F1 (upd F1 p (.lst vs)) := fun b u k => by rw [upd_ne (ne_of_none k f)]; exact k
    exact ⟨p, rfl, .inl ⟨⟨_, SqL.of hp⟩, p1 _ _ H1 vs g2 (DqA.mono s2 _ _ q2) (jw_list (SqL.of upd_same))⟩⟩
  | sc ns =>
    obtain ⟨a, rfl, q2⟩ := q1
    exact ⟨a, rfl, .inl ⟨⟨_, g1.cfg.sub.seq q2⟩, p1 _ F1 H1 _ g1 (DqA.of_ints ns) (jw_list q2)⟩⟩
  | _ => exact p1.elim
theorem vj_any {tg : Expr} (h : VE ca W X e fa) : VJ ca W X tg e (iAb fa) := by
  obtain ⟨t, p, s⟩ := h
  refine ⟨_, pi_any p, fun B F env σ H R st q => ?_⟩
  show t σ H fun x H1 => ∃ a, x = .ref a ∧ (((∃ xs, SqL X.K H1 a xs) ∧ R (Itl X.K a) H1) ∨ ((∃ xs, SqT X.K H1 a xs) ∧ R (Itt X.K a) H1))
  refine seqE (PostJ X.K ca W σ F H R) s st q (fun _ _ h => h) (fun h => h) fun r F1 H1 v p1 g1 q1 => ?_
  cases r with
  | d x =>
    cases x with
    | list xs =>
      cases q1 with
      | lst h1 h2 => exact ⟨_, rfl, .inl ⟨⟨_, SqL.of (g1.cfg.sub _ _ h1)⟩, p1 _ F1 H1 _ g1 h2 (jw_list (SqL.of (g1.cfg.sub _ _ h1)))⟩⟩
    | tuple xs =>
      cases q1 with
      | tup h1 h2 => exact ⟨_, rfl, .inr ⟨⟨_, same_seqT g1.cfg.sub h1⟩, p1 _ F1 H1 _ g1 h2 (jw_tup (same_seqT g1.cfg.sub h1))⟩⟩
    | _ => exact p1.elim
  | ol xs =>
    obtain ⟨p, vs, rfl, n0, f, hp, q2⟩ := q1
    exact ⟨p, rfl, .inl ⟨⟨_, SqL.of hp⟩, p1 _ _ H1 vs g1 q2 (jw_list (SqL.of hp))⟩⟩
  | bl xs =>
    obtain ⟨p, vs, rfl, hp, q2⟩ := q1
    exact ⟨p, rfl, .inl ⟨⟨_, SqL.of hp⟩, p1 _ _ H1 vs g1 q2 (jw_list (SqL.of hp))⟩⟩
  | sc ns =>
    obtain ⟨a, rfl, q2⟩ := q1
    exact ⟨a, rfl, .inl ⟨⟨_, g1.cfg.sub.seq q2⟩, p1 _ F1 H1 _ g1 (DqA.of_ints ns) (jw_list (g1.cfg.sub.seq q2))⟩⟩
  | _ => exact p1.elim
@[simp] theorem e_iA (env : VEnv) : iA fa env = (fa env).bind gAq := rfl
@[simp] theorem e_iAb (env : VEnv) : iAb fa env = (fa env).bind gAqb := rfl
@[simp] theorem e_gAq1 (xs) : gAq (.d (.tuple xs)) = .ok xs := rfl
@[simp] theorem e_gAq2 (xs) : gAq (.d (.list xs)) = .ok xs := rfl
@[simp] theorem e_gAq3 (xs) : gAq (.ol xs) = .ok xs := rfl
@[simp] theorem e_gAqb1 (xs) : gAqb (.d (.tuple xs)) = .ok xs := rfl
@[simp] theorem e_gAqb2 (xs) : gAqb (.d (.list xs)) = .ok xs := rfl
@[simp] theorem e_gAqb3 (xs) : gAqb (.ol xs) = .ok xs := rfl
@[simp] theorem e_gAqb4 (xs) : gAqb (.bl xs) = .ok xs := rfl
@[simp] theorem e_no (env : VEnv) : sNo env = .no := rfl
theorem e_rep {xs : List PyData} {k : Int} {r : RV} (h : r.lv = some xs) (h1 : k.natAbs ≤ 1000000) (h2 : xs.length * k.toNat ≤ 1000000) : gRep r (.d (.int k)) = .ok (.ol (List.replicate k.toNat xs).flatten) := by
  show (rsO r.lv).bind _ = _
  rw [h]
  simp only [rsO_some, Rs.bind_ok]
  rw [if_pos ⟨h1, h2⟩]
theorem e_store (i : Nat) (fi fe : VEnv → Rs RV) (env : VEnv) : sStore i fi fe env = match env[i]? with
  | some (some (.ol xs)) => (fe env).out env fun r => (fi env).out env fun ix => (match r.toD, ix with
    | some d, .d (.int k) => (match ixN xs.length k with
      | some j => .nx (env.set i (some (.ol (xs.set j d))))
      | none => .no)
    | _, _ => .no)
  | _ => .no := rfl
/-! ### a < b < c -/
def cChI (g g' : RV → RV → Rs RV) (fc : VEnv → Rs RV) (env : VEnv) : RV → RV → Rs RV
  | .d (.int m), .d (.int n) => (g (.d (.int m)) (.d (.int n))).bind fun r => (asB r).bind fun k => if k = true then (fc env).bind fun z => g' (.d (.int n)) z else .ok (.d (.bool false))
  | _, _ => .no
def cCh (g g' : RV → RV → Rs RV) (fa fb fc : VEnv → Rs RV) : VEnv → Rs RV := fun env => (fa env).bind fun x => (fb env).bind fun y => cChI g g' fc env x y
@[simp] theorem e_cCh (g g') (env : VEnv) : cCh g g' fa fb fc env = (fa env).bind fun x => (fb env).bind fun y => cChI g g' fc env x y := rfl
@[simp] theorem e_cChI (g g') (env : VEnv) (m n : Int) : cChI g g' fc env (.d (.int m)) (.d (.int n)) = (g (.d (.int m)) (.d (.int n))).bind fun r => (asB r).bind fun k => if k = true then (fc env).bind fun z => g' (.d (.int n)) z else .ok (.d (.bool false)) := rfl
theorem snd_chain {K : PySem.W.Frag} {r r' : R2} {g g' : RV → RV → Rs RV} {ta tb tc : TE} (hr : Op2S K ca r g) (hr' : Op2S K ca r' g') (sa : SndE K ca W ta fa) (sb : SndE K ca W tb fb) (sc : SndE K ca W tc fc) : SndE K ca W (tChain r r' ta tb tc) (cCh g g' fa fb fc) := by
  intro B F env σ H Q st p
  show ta σ H fun x H1 => tb σ H1 fun y H2 => r x y H2 fun z H3 => ∃ k, z = .bl k ∧ (if k = true then tc σ H3 fun w' H4 => r' y w' H4 Q else Q (.bl false) H3)
  refine seqE (PostE K ca W σ F H Q) sa st p (fun _ _ h => h) (fun h => h) fun x F1 H1 v1 p1 g1 q1 => ?_
  refine seqE (PostE K ca W σ F H Q) sb (st.grow g1) p1 (fun _ _ h => PostX.mono g1 h) (fun h => h) fun y F2 H2 v2 p2 g2 q2 => ?_
  have g02 := g1.trans g2
  unfold cChI at p2
  split at p2
  · rename_i m n
    cases q1
    cases q2
    refine hr W σ F2 H2 F2 H2 _ _ (.d (.int m)) (.d (.int n)) _ (Grow.refl g2.cfg) (.int _) (.int _) ?_
    cases e : g (.d (.int m)) (.d (.int n)) with
    | ex c fs => rw [e] at p2; exact PostX.mono g02 p2
    | no => rw [e] at p2; exact p2
    | ok z =>
      rw [e] at p2
      simp only [Rs.bind_ok] at p2
      intro F3 H3 v3 g3 q3
      have g03 := g02.trans g3
      unfold asB at p2
      split at p2
      · rename_i k
        cases q3
        refine ⟨k, rfl, ?_⟩
        cases k with
        | false =>
          rw [if_neg Bool.false_ne_true]
          simp only [Rs.bind_ok, Bool.false_ne_true, if_false] at p2
          exact p2 F3 H3 _ g03 (.bl _)
        | true =>
          rw [if_pos rfl]
          simp only [Rs.bind_ok, if_true] at p2
          refine seqE (PostE K ca W σ F H Q) sc (st.grow g03) p2 (fun _ _ h => PostX.mono g03 h) (fun h => h) fun w F4 H4 v4 p4 g4 q4 => ?_
          exact hr' W σ F H F4 H4 _ v4 (.d (.int n)) w Q (g03.trans g4) (.int _) (q4.older g03.hh) p4
      · exact p2.elim
  · exact p2.elim
theorem ve_chain {op op' : CmpOp} {r r' : R2} {g g' : RV → RV → Rs RV} (ho : OpR X (compareOp op) r) (hr : Op2S X.K ca r g) (ho' : OpR X (compareOp op') r') (hr' : Op2S X.K ca r' g') (ha : VE ca W X a fa) (hb : VE ca W X b fb) (hc : VE ca W X c fc)
    (hm : lastMarks [op, op'] [b, c] = false := by with_unfolding_all rfl) : VE ca W X (.Compare a [op, op'] [b, c] pos) (cCh g g' fa fb fc) := by
  obtain ⟨ta, pa, sa⟩ := ha
  obtain ⟨tb, pb, sb⟩ := hb
  obtain ⟨tc, pc, sc⟩ := hc
  exact ⟨_, pe_chain ho ho' pa pb pc hm, snd_chain hr hr' sa sb sc⟩
theorem vt_chain {op op' : CmpOp} {r r' : R2} {g g' : RV → RV → Rs RV} (ho : OpR X (compareOp op) r) (hr : Op2S X.K ca r g) (ho' : OpR X (compareOp op') r') (hr' : Op2S X.K ca r' g') (ha : VE ca W X a fa) (hb : VE ca W X b fb) (hc : VE ca W X c fc)
    (hm : lastMarks [op, op'] [b, c] = false := by with_unfolding_all rfl) : VT ca W X (.Compare a [op, op'] [b, c] pos) (cB (cCh g g' fa fb fc)) := by
  obtain ⟨ta, pa, sa⟩ := ha
  obtain ⟨tb, pb, sb⟩ := hb
  obtain ⟨tc, pc, sc⟩ := hc
  exact ⟨_, pt_chain ho ho' pa pb pc hm, snd_test (snd_chain hr hr' sa sb sc)⟩
end
end VL

namespace VL
open PySem PySem.Spec PyProof.Rows L2
theorem e_fzE (i : Nat) (env : VEnv) : fzE i env = match env[i]? with
  | some (some (.ol xs)) => env.set i (some (.d (.list xs)))
  | _ => env := rfl
theorem tyD_list (xs) : tyD (.list xs) = some "list" := rfl
theorem tyD_tuple (xs) : tyD (.tuple xs) = some "tuple" := rfl
theorem tyD_int (a) : tyD (.int a) = some "int" := rfl
theorem kitB_ll : kitB "list" "list" = some true := by decide +kernel
theorem kitB_tt : kitB "tuple" "tuple" = some true := by decide +kernel
theorem kitB_lt : kitB "list" "tuple" = some false := by decide +kernel
theorem kitB_tl : kitB "tuple" "list" = some false := by decide +kernel
theorem kitB_ii : kitB "int" "int" = some true := by decide +kernel

theorem atI_cons {α : Type} (xs : List α) (n : Nat) (h : n < xs.length) : atI xs (n : Int) = xs[n]? := by
  rw [atI_lt (by omega) (by omega)]; rfl
theorem e_at1 {α : Type} (x0 x1 : α) (xs : List α) : atI (x0 :: x1 :: xs) 1 = some x1 := atI_cons _ 1 (by simp)
theorem e_at2 {α : Type} (x0 x1 x2 : α) (xs : List α) : atI (x0 :: x1 :: x2 :: xs) 2 = some x2 := atI_cons _ 2 (by simp)
theorem e_at3 {α : Type} (x0 x1 x2 x3 : α) (xs : List α) : atI (x0 :: x1 :: x2 :: x3 :: xs) 3 = some x3 := atI_cons _ 3 (by simp)
theorem e_at4 {α : Type} (x0 x1 x2 x3 x4 : α) (xs : List α) : atI (x0 :: x1 :: x2 :: x3 :: x4 :: xs) 4 = some x4 := atI_cons _ 4 (by simp)
theorem e_at5 {α : Type} (x0 x1 x2 x3 x4 x5 : α) (xs : List α) : atI (x0 :: x1 :: x2 :: x3 :: x4 :: x5 :: xs) 5 = some x5 := atI_cons _ 5 (by simp)
theorem e_at6 {α : Type} (x0 x1 x2 x3 x4 x5 x6 : α) (xs : List α) : atI (x0 :: x1 :: x2 :: x3 :: x4 :: x5 :: x6 :: xs) 6 = some x6 := atI_cons _ 6 (by simp)
theorem e_at7 {α : Type} (x0 x1 x2 x3 x4 x5 x6 x7 : α) (xs : List α) : atI (x0 :: x1 :: x2 :: x3 :: x4 :: x5 :: x6 :: x7 :: xs) 7 = some x7 := atI_cons _ 7 (by simp)
theorem e_at8 {α : Type} (x0 x1 x2 x3 x4 x5 x6 x7 x8 : α) (xs : List α) : atI (x0 :: x1 :: x2 :: x3 :: x4 :: x5 :: x6 :: x7 :: x8 :: xs) 8 = some x8 := atI_cons _ 8 (by simp)
theorem e_at9 {α : Type} (x0 x1 x2 x3 x4 x5 x6 x7 x8 x9 : α) (xs : List α) : atI (x0 :: x1 :: x2 :: x3 :: x4 :: x5 :: x6 :: x7 :: x8 :: x9 :: xs) 9 = some x9 := atI_cons _ 9 (by simp)
theorem e_atm {α : Type} (xs : List α) (x : α) : atI (xs ++ [x]) (-1) = some x := by
  have h : ixN (xs ++ [x]).length (-1) = some xs.length := by
    unfold ixN
    rw [if_neg (by decide), if_pos (by simp; omega)]
    congr 1
    simp
    omega
  unfold atI
  rw [h]
  simp
theorem eqv_bool (a b : Bool) : PyData.eqv (.bool a) (.bool b) = (a == b) := by cases a <;> cases b <;> rfl
theorem eqv_none : PyData.eqv .none .none = true := rfl
theorem tyD_bool (a) : tyD (.bool a) = some "bool" := rfl
theorem tyD_str (a) : tyD (.str a) = some "str" := rfl
theorem tyD_none : tyD .none = some "NoneType" := rfl
theorem kitB_bb : kitB "bool" "bool" = some true := by decide +kernel
theorem kitB_nb : kitB "NoneType" "bool" = some false := by decide +kernel
theorem kitB_bi : kitB "bool" "int" = some true := by decide +kernel
theorem kitB_ib : kitB "int" "bool" = some false := by decide +kernel
theorem kitB_nl : kitB "NoneType" "list" = some false := by decide +kernel
theorem kitB_nt : kitB "NoneType" "tuple" = some false := by decide +kernel
theorem e_andB (a b : Bool) : (if a = true then Rs.ok (RV.d (.bool b)) else Rs.ok (RV.d (.bool false))) = .ok (.d (.bool (a && b))) := by cases a <;> rfl
theorem e_orB (a b : Bool) : (if a = true then Rs.ok (RV.d (.bool true)) else Rs.ok (RV.d (.bool b))) = .ok (.d (.bool (a || b))) := by cases a <;> rfl
theorem e_andR (a b : Bool) : (if a = true then Rs.ok b else Rs.ok false) = .ok (a && b) := by cases a <;> rfl
theorem e_orR (a b : Bool) : (if a = true then Rs.ok true else Rs.ok b) = .ok (a || b) := by cases a <;> rfl

end VL

namespace VL
open PySem PySem.Spec PyProof.Rows L2
/-! ## defs with keyword-only parameters -/
section
variable {ca : Nat → Addr} {W : WX} {X : Cx} {e : Expr} {es : List Expr} {pos kpos : Pos} {nm : Option Str} {kws : List Keyword}
theorem fnD_ok {P : Program} {w : World} {K : PySem.W.Frag} {mg : Str → Option Value} {base : Heap} {x qual : Str} {sd : Stmt} {dl : List (Str × V)} {fA : Addr} {fd : FuncData} {N ps : List Str} {k : Nat} {body : VEnv → Out} (F : FunD K x qual (defArgs sd) (defBody sd) (defScope sd) [] dl fA fd) (S : FnScope N ps (defScope sd))
    (hb : ∀ (cdv : Value) (A : Around) (outer : List PySem.Env) (s : Shared) (H : Hp) (E : XK), Room k (A.deeper (envOfC qual (defScope sd) s.heap.objs.size fA cdv)) → Takes (cxOf (L2.CX P w) P w K mg base N qual (defScope sd) fA cdv A outer s H E) (fun cls dx _ H' => E cls dx H') →
      PassesOwn (model P w) (A.deeper (envOfC qual (defScope sd) s.heap.objs.size fA cdv)) (envOfC qual (defScope sd) s.heap.objs.size fA cdv) (cxOf (L2.CX P w) P w K mg base N qual (defScope sd) fA cdv A outer s H E).xe →
      VSs ca (fun cls dx _ H' => E cls dx H') (cxOf (L2.CX P w) P w K mg base N qual (defScope sd) fA cdv A outer s H E) (defBody sd) body) : FnOk P w K mg base (L2.CX P w) (k + 1) fA fd ps (spV K ca ps.length (fnD N.length body)) := by
  refine F.ok S (fun vs H Q E h => h.1) (fun cdv A outer s H vs Q E hr h => ?_)
  obtain ⟨hl, G, rs, c, pr, q⟩ := h
  obtain ⟨t, p, sn⟩ := hb cdv A outer s H E hr (takes_of rfl rfl rfl rfl) (passes_of rfl)
  refine ⟨t, p, sn ⟨G, H⟩ G _ _ H _ (start_ok N c pr) ?_⟩
  unfold fnD at q
  generalize hB : body (rs.map some ++ List.replicate (N.length - rs.length) none) = o at q ⊢
  cases o with
  | nx env => exact fun F' σ' H' s st => q F' H' .non st.gr .non
  | rt r => exact fun F' H' v g r => q F' H' v g r
  | ex c fs env => exact fun F' σ' H' cls dx s st x => q F' H' cls dx st.gr x
  | bk env => exact q.elim
  | ct env => exact q.elim
  | no => exact q.elim
theorem paired_app {α β : Type} {R : α → β → Prop} : ∀ {as : List α} {bs : List β} {cs : List α} {ds : List β}, Paired R as bs → Paired R cs ds → Paired R (as ++ cs) (bs ++ ds)
  | _, _, _, _, .nil, h => h
  | _, _, _, _, .cons a b, h => .cons a (paired_app b h)
theorem paired_D {K : PySem.W.Frag} {H0 F H : Hp} : ∀ {vs : List V} {ds : List PyData}, DqA K F vs ds → Paired (fun v r => RVok K H0 F H v r) vs (ds.map RV.d)
  | _, _, .nil => .nil
  | _, _, .cons a b => .cons a (paired_D b)
def KDs (K : PySem.W.Frag) (D : Addr) (l : List (Str × V)) : Prop := ∀ q ∈ l, ∃ u, PySem.W.nsIn K D q.1 = some (some u) ∧ RelV q.2 u
theorem kd_nil {K : PySem.W.Frag} {D : Addr} : KDs K D [] := fun _ h => absurd h (by simp)
theorem kd_cons {K : PySem.W.Frag} {D : Addr} {x : Str} {v : V} {u : Value} {l : List (Str × V)} (h : PySem.W.nsIn K D x = some (some u)) (r : RelV v u) (t : KDs K D l) : KDs K D ((x, v) :: l) := fun q hq => by
  rcases List.mem_cons.mp hq with rfl | hq
  · exact ⟨u, h, r⟩
  · exact t q hq
theorem fund_mk {K : PySem.W.Frag} {x qual : Str} {params : Arguments} {body : List Stmt} {scope : Scope} {f D : Addr} {dl : List (Str × V)} {oc doc pm cdv ct : Value} {od an : Option Addr} {osl : Array (Option Value)}
    (l : K.lookup f = some ⟨oc, od, .func (PySem.W.fnOf x qual params body scope .none (.ref D) doc pm an cdv ct), osl⟩) (c : PySem.W.codeIn K cdv qual = true) (k : PySem.W.keepIn K (.ref f) = true) (h : KDs K D dl) : FunD K x qual params body scope [] dl f (PySem.W.fnOf x qual params body scope .none (.ref D) doc pm an cdv ct) :=
  ⟨⟨_, _, _, _, _, _, _, _, _, _, rfl, l, c, .inl ⟨rfl, rfl⟩, .inr ⟨D, rfl, h⟩⟩, k⟩
/-- what is written for the values that lack: data that stands in K -/
def Still (K : PySem.W.Frag) (dvs : List V) (dds : List PyData) : Prop := ∀ F, DqA K F dvs dds
/-- a call where all keyword-only values lack -/
def DBn (K : PySem.W.Frag) (fd : FuncData) (ps : List Str) (dds : List PyData) : Prop := ∃ dvs, (∃ ds, Vals dvs ds ∧ Binds K fd ps ds) ∧ Still K dvs dds
/-- a call with n positional values and the keywords ks; dds: the data that lacks -/
def KDB (K : PySem.W.Frag) (fd : FuncData) (ps : List Str) (n : Nat) (ks : List Str) (dds : List PyData) : Prop := ∃ mz, (∃ mv, KBn K fd ps n ks (fun us ws => us ++ (ws ++ mv)) (fun vs zs => vs ++ (zs ++ mz))) ∧ Still K mz dds
/-- the values that defaults may be -/
theorem still_nil {K : PySem.W.Frag} : Still K [] [] := fun _ => .nil
theorem still_cons {K : PySem.W.Frag} {v : V} {d : PyData} {vs : List V} {ds : List PyData} (h : ∀ F, Dq K F v d) (t : Still K vs ds) : Still K (v :: vs) (d :: ds) := fun F => .cons (h F) (t F)
theorem still_tup0 {K : PySem.W.Frag} {T : Addr} {od : Option Addr} {n : Nat} {sl : Array (Option Value)} (l : K.lookup T = some ⟨.type "tuple", od, .seq #[] n, sl⟩) (F : Hp) : Dq K F (.ref T) (.tuple []) := .tup (.inr ⟨_, _, _, l, rfl, rfl, Nat.zero_le _, .nil⟩) .nil
/-- f(e, ..) where keyword-only values lack -/
theorem ve_callD {fA : Addr} {fd : FuncData} {ps : List Str} {x : Str} {p : Pos} {k n m : Nat} {dds : List PyData} {G : List RV → Rs RV} {f : VEnv → Rs (List RV)} (Fo : FnOk X.prog X.w X.K X.mg X.base (L2.CX X.prog X.w) k fA fd ps (spV X.K ca n G)) (hr : Room k X.A) (hg : Gl X x) (hm : X.mg x = some (.ref fA)) (hk : PySem.W.keepIn X.K (.ref fA) = true) (hb : DBn X.K fd ps dds) (tk : Takes X W)
    (ha : VA ca W X (e :: es) f) (hn : m + dds.length = n := by rfl) (hdb : (x == ("__debug__" : Str)) = false := by decide) (he : starEach (e :: es) X.env = (false, eval e X.env) :: starEach es X.env := by rfl) (hpl : (backTo pos (starEach es X.env)).any (·.1) = false := by rfl) :
    VE ca W X (.Call (.Name x p) (e :: es) [] pos) (cA (fun rs => if rs.length = m then G (rs.map RV.arg ++ dds.map RV.d) else .no) f) := by
  obtain ⟨t, pa, sa⟩ := ha
  obtain ⟨dvs, ⟨ds, hd, hb⟩, hS⟩ := hb
  refine ⟨_, pe_callSD Fo hr hg hm hk hb hd (fun σ => passAt tk σ) pa hdb he hpl, fun B F env σ H Q st q => ?_⟩
  show t σ H fun vs H1 => spV X.K ca n G (vs ++ dvs) H1 Q (WE W σ)
  refine seqA (PostE X.K ca W σ F H Q) sa st q (fun _ _ h => h) (fun h => h) fun rs F1 H1 vs p1 g1 q1 => ?_
  split at p1
  · rename_i hl
    obtain ⟨F2, g2, s2, q2⟩ := args_go g1 (Same.refl _) q1
    have q3 : Paired (fun v r => RVok X.K H1 F2 H1 v r) (vs ++ dvs) (rs.map RV.arg ++ dds.map RV.d) := paired_app q2 (paired_D (hS F2))
    refine ⟨by rw [Paired.length q3, List.length_append, List.length_map, List.length_map, hl, hn], F2, _, g2.cfg, q3, ?_⟩
    cases e1 : G (rs.map RV.arg ++ dds.map RV.d) with
    | ok r => rw [e1] at p1; exact fun G' H' v gg rr => p1 G' H' v (g2.trans gg) (rr.older g2.hh)
    | ex c fs => rw [e1] at p1; exact fun G' H' cls dx gg x => p1 G' H' cls dx (g2.trans gg) x
    | no => rw [e1] at p1; exact p1
  · exact p1.elim
/-! ### f(e, .., k = v, ..) -/
/-- the keywords' values -/
def VK1 (ca : Nat → Addr) (W : WX) (X : Cx) (kws : List Keyword) (f : VEnv → Rs (List RV)) : Prop := ∃ t, PK X kws t ∧ SndA X.K ca W t f
theorem vk_nil : VK1 ca W X [] aN := ⟨_, pk_nil, fun _ _ _ _ _ _ st p => p _ _ _ (Grow.refl st.cfg) .nil⟩
theorem vk_cons {f : VEnv → Rs RV} {g : VEnv → Rs (List RV)} (he : VE ca W X e f) (hr : VK1 ca W X kws g) : VK1 ca W X (⟨nm, e, kpos⟩ :: kws) (aC f g) := by
  obtain ⟨te, pe, se⟩ := he
  obtain ⟨tr, pr, sr⟩ := hr
  refine ⟨_, pk_cons pe pr, fun B F env σ H Q st p => ?_⟩
  show te σ H fun x H1 => tr σ H1 fun xs H2 => Q (x :: xs) H2
  refine seqE (PostA X.K ca W σ F H Q) se st p (fun _ _ h => h) (fun h => h) fun x F1 H1 v1 p1 g1 q1 => ?_
  refine seqA (PostA X.K ca W σ F H Q) sr (st.grow g1) p1 (fun _ _ h => PostX.mono g1 h) (fun h => h) fun xs F2 H2 vs p2 g2 q2 => ?_
  exact p2 F2 H2 (v1 :: vs) (g1.trans g2) (.cons (q1.grow g2) (paired_older g1.hh q2))
def tCallKW (n m : Nat) (sp : Sp) (mz : List V) (W : WX) (t tk : TA) : TE := fun σ H Q => t σ H fun vs H1 => tk σ H1 fun zs H2 => vs.length = n ∧ zs.length = m ∧ sp (vs ++ (zs ++ mz)) H2 Q (WE W σ)
theorem pe_callKW {CX : CXT} {k n : Nat} {f : Addr} {fd : FuncData} {ps ks : List Str} {sp : Sp} {x : Str} {p : Pos} {mv : List Value} {mz : List V} {t tk : TA} (F : FnOk X.prog X.w X.K X.mg X.base CX k f fd ps sp) (hr : Room k X.A) (hg : Gl X x) (hm : X.mg x = some (.ref f)) (hk : PySem.W.keepIn X.K (.ref f) = true)
    (hb : KBn X.K fd ps n ks (fun us ws => us ++ (ws ++ mv)) (fun vs zs => vs ++ (zs ++ mz))) (hx : ∀ σ, PassesAt CX X σ (WE W σ)) (ha : PA X (e :: es) t) (hkw : PK X kws tk) (hall : (backToKw pos (keywordEach kws X.env)).all (·.1.isSome) = true) (hks : (backToKw pos (keywordEach kws X.env)).filterMap (·.1) = ks)
    (hdb : (x == ("__debug__" : Str)) = false) (he : starEach (e :: es) X.env = (false, eval e X.env) :: starEach es X.env)
    (hpl : ((backTo pos (starEach (e :: es) X.env)).any (·.1) || (backToKw pos (keywordEach kws X.env)).any (·.1.isNone)) = false) : PE X (.Call (.Name x p) (e :: es) kws pos) (tCallKW n ks.length sp mz W t tk) := by
  refine ⟨fun pins s σ H Q I h => wpAny_Call_Name_kw (ld_glob I hg hm ?_ hdb)⟩
  refine PySem.W.callWith_KW (h₀ := X.base) I.ok.mod.kin hk hall (thn (ha.run pos pins s σ H _ I h) fun us s1 ⟨vs, H1, I1, r, q⟩ => ?_) hpl he
  refine thn (hkw.run pos pins s1 σ H1 _ I1 q) fun ws s2 ⟨zs, H2, I2, rz, l1, l2, q2⟩ => ⟨I2.kIn, ?_⟩
  rw [hks]
  refine wpAny_call (codeAny_mono (F.run X.A X.stack s2 H2 ⟨us, ks.zip ws⟩ (us ++ (ws ++ mv)) (vs ++ (zs ++ mz)) Q (WE W σ) hr I2.env0 (hb.to s2 us ws I2.kIn (r.length.symm.trans l1) (rz.length.symm.trans l2)) (hb.rel r rz) q2) fun r s' hq => ?_)
  cases r with
  | error ev => exact hx σ pins H2 s2 ev s' I2 hq
  | ok fl =>
    cases fl with
    | ret u => exact I2.after hq
    | next => exact hq.elim
    | brk => exact hq.elim
    | cont => exact hq.elim
/-- positional values, then the keywords', then those that lack -/
def cAK (h : List RV → List RV → Rs RV) (f g : VEnv → Rs (List RV)) : VEnv → Rs RV := fun env => (f env).bind fun rs => (g env).bind fun zs => h rs zs
theorem ve_callK {fA : Addr} {fd : FuncData} {ps ks : List Str} {x : Str} {p : Pos} {k n m : Nat} {dds : List PyData} {G : List RV → Rs RV} {f g : VEnv → Rs (List RV)} (Fo : FnOk X.prog X.w X.K X.mg X.base (L2.CX X.prog X.w) k fA fd ps (spV X.K ca n G)) (hr : Room k X.A) (hg : Gl X x) (hm : X.mg x = some (.ref fA)) (hk : PySem.W.keepIn X.K (.ref fA) = true)
    (hb : KDB X.K fd ps m ks dds) (tk : Takes X W)
    (ha : VA ca W X (e :: es) f) (hkw : VK1 ca W X kws g) (hn : m + (ks.length + dds.length) = n := by rfl) (hall : (backToKw pos (keywordEach kws X.env)).all (·.1.isSome) = true := by rfl) (hks : (backToKw pos (keywordEach kws X.env)).filterMap (·.1) = ks := by rfl)
    (hdb : (x == ("__debug__" : Str)) = false := by decide) (he : starEach (e :: es) X.env = (false, eval e X.env) :: starEach es X.env := by rfl)
    (hpl : ((backTo pos (starEach (e :: es) X.env)).any (·.1) || (backToKw pos (keywordEach kws X.env)).any (·.1.isNone)) = false := by rfl) :
    VE ca W X (.Call (.Name x p) (e :: es) kws pos) (cAK (fun rs zs => if rs.length = m ∧ zs.length = ks.length then G (rs.map RV.arg ++ (zs.map RV.arg ++ dds.map RV.d)) else .no) f g) := by
  obtain ⟨t, pa, sa⟩ := ha
  obtain ⟨t2, pk, sk⟩ := hkw
  obtain ⟨mz, ⟨mv, hb⟩, hS⟩ := hb
  refine ⟨_, pe_callKW Fo hr hg hm hk hb (fun σ => passAt tk σ) pa pk hall hks hdb he hpl, fun B F env σ H Q st q => ?_⟩
  show t σ H fun vs H1 => t2 σ H1 fun zs H2 => vs.length = m ∧ zs.length = ks.length ∧ spV X.K ca n G (vs ++ (zs ++ mz)) H2 Q (WE W σ)
  refine seqA (PostE X.K ca W σ F H Q) sa st q (fun _ _ h => h) (fun h => h) fun rs F1 H1 vs p1 g1 q1 => ?_
  refine seqA (PostE X.K ca W σ F H Q) sk (st.grow g1) p1 (fun _ _ h => PostX.mono g1 h) (fun h => h) fun zs F2 H2 ws p2 g2 q2 => ?_
  simp only at p2
  split at p2
  · rename_i hl
    have q1' : Paired (fun v r => RVok X.K H F2 H2 v r) vs rs := paired_grow g2 (paired_older (Same.refl _) q1)
    have q2' : Paired (fun v r => RVok X.K H F2 H2 v r) ws zs := paired_older g1.hh q2
    obtain ⟨F3, g3, s3, q3⟩ := args_go (g1.trans g2) (Same.refl _) (paired_app q1' q2')
    rw [List.map_append] at q3
    have q4 : Paired (fun v r => RVok X.K H2 F3 H2 v r) (vs ++ (ws ++ mz)) (rs.map RV.arg ++ (zs.map RV.arg ++ dds.map RV.d)) := by
      rw [← List.append_assoc, ← List.append_assoc]
      exact paired_app q3 (paired_D (hS F3))
    have l1 : vs.length = m := by rw [Paired.length q1, hl.1]
    have l2 : ws.length = ks.length := by rw [Paired.length q2, hl.2]
    refine ⟨l1, l2, by rw [Paired.length q4, List.length_append, List.length_append, List.length_map, List.length_map, List.length_map, hl.1, hl.2, hn], F3, _, g3.cfg, q4, ?_⟩
    cases e1 : G (rs.map RV.arg ++ (zs.map RV.arg ++ dds.map RV.d)) with
    | ok r => rw [e1] at p2; exact fun G' H' v gg rr => p2 G' H' v (g3.trans gg) (rr.older g3.hh)
    | ex c fs => rw [e1] at p2; exact fun G' H' cls dx gg x => p2 G' H' cls dx (g3.trans gg) x
    | no => rw [e1] at p2; exact p2
  · exact p2.elim
@[simp] theorem e_cAK (h) (f g : VEnv → Rs (List RV)) (env : VEnv) : cAK h f g env = (f env).bind fun rs => (g env).bind fun zs => h rs zs := rfl
end
end VL

namespace VL
open PySem PySem.Spec PyProof.Rows L2

/-! ## dicts whose keys are tuples of ints: the machine's side -/
abbrev tk (P : Program) (w : World) : HeapKind P w (List Int) := tupleKind (intKind P w)
section
variable {X : Cx} {pins : List (Addr × Obj)} {σ : L2.St} {H : Hp} {s : Shared} {a b p d : Addr} {ks : List Int} {xs : List (List Int × Addr × Value)} {n : Nat} {A : Around} {E : Value → Shared → Prop}
theorem items_ints {P : Program} {w : World} : ∀ {ks : List Int} {us : List Value}, Vals (ks.map V.int) us → ItemsAre (intKind P w) ks us
  | [], _, r => by rw [List.map_nil] at r; cases r; exact .nil
  | k :: ks, _, r => by
    rw [List.map_cons] at r
    cases r with
    | cons h t => obtain ⟨t1, rfl⟩ := h; exact .cons (by show Value.isInt k (.int k t1) = true; simp [Value.isInt]) (items_ints t)
theorem key_is (I : Inv X pins σ H s) (h : SqT X.K H b (ks.map V.int)) : (tk X.prog X.w).is s.heap ks b := by
  obtain ⟨its, r, ⟨o, ho, hc, n, hd⟩, _⟩ := I.tuple h
  exact ⟨o, its.toArray, n, ho, hc, hd, by simpa using items_ints r⟩
/-- all keys stand -/
def KeysIn (K : PySem.W.Frag) (H : Hp) (xs : List (List Int × Addr × Value)) : Prop := ∀ x ∈ xs, SqT K H x.2.1 (x.1.map V.int)
theorem dto_ok (I : Inv X pins σ H s) (e : H p = some (DTO p (n, xs))) (k : KeysIn X.K H xs) : s.heap.DictOfH (tk X.prog X.w) p xs ∧ xs.length ≤ sizeLine ∧ (p == sysModules) = false := by
  obtain ⟨⟨o, es, h1, h2, h3, h4, h5, h6, h7⟩, _⟩ := (show ObjOk X.prog X.w H s.heap p (.ext (DTOk p (n, xs))) from I.hok p _ e)
  exact ⟨⟨o, es, n, h1, h2, h3, h4, fun x hx => key_is I (k x hx), h5⟩, h6, h7⟩
theorem dto_new {P : Program} {w : World} {h : Heap} (dd : h.DictOfH (tk P w) p xs) (z : xs.length ≤ sizeLine) (hd : (p == sysModules) = false) : ∃ n, ∀ H, ObjOk P w H h p (DTO p (n, xs)) := by
  obtain ⟨o, es, ep, h1, h2, h3, h4, _, h5⟩ := dd
  refine ⟨ep, fun H => ⟨⟨o, es, h1, h2, h3, h4, h5, z, hd⟩, ⟨o, h1⟩, fun k1 k2 q k => ?_⟩⟩
  obtain ⟨o, es, h1, r⟩ := q
  exact ⟨o, es, k _ h1, r⟩
theorem storedH_len (xs : List (List Int × Addr × Value)) (k : List Int) (a : Addr) (v : Value) : (storedH xs k a v).length ≤ xs.length + 1 := by
  unfold storedH
  split <;> simp
/-- d[k] -/
abbrev rIxDT (K : PySem.W.Frag) : R2 := fun x y H Q => ∃ p b n xs ks q v, x = .ref p ∧ y = .ref b ∧ H p = some (DTO p (n, xs)) ∧ KeysIn K H xs ∧ SqT K H b (ks.map V.int) ∧ atKey xs ks = some q ∧ RelV v q.2 ∧ Q v H
theorem ix_dt (hu : X.A.units + 1 < cLine) : IxR X (rIxDT X.K) := by
  intro value slice pins s σ H x y v u Q I rx ry h hs
  obtain ⟨p, b, n, xs, ks, q, z, rfl, rfl, e, kk, hk, hq, rz, fin⟩ := h
  cases rx; cases ry
  obtain ⟨dd, z1, z2⟩ := dto_ok I e kk
  unfold subscriptTail
  refine wpAny_bind ?_
  rw [getitemInPython_of_ne dd.typeIs.not_modules]
  refine wpAny_bind (wpAny_specialOf dd.typeIs PySem.F.slot_dict_getitem.lookup ?_)
  have fin : wpAny (model X.prog X.w) X.A (subscripted slice false (.ref p) (.ref b)) (fun r s₃ => wpAny (model X.prog X.w) X.A (letTemporaryGo value (.ref p) r >>= fun _ => pure r) (EP X pins σ Q) X.xe s₃) X.xe s := by
    rw [hs]
    exact wpAny_operating (wpAny_getItem_heap (tupleKind_room_in1 hu) (key_is I hk) dd hq (wpAny_bind (wpAny_letTemporaryGo (wpAny_pure ⟨z, H, I.tok _, rz, fin⟩))))
  first
    | exact wpAny_pure (wpAny_bind fin)
    | exact wpAny_bind (wpAny_pure (wpAny_bind fin))
    | exact wpAny_bind fin
/-- d[k], keys ints and texts -/
abbrev rIxDK : R2 := fun x y H Q => ∃ a v, x = .ref a ∧ DGet H a y (some v) ∧ Q v H
theorem ix_dk (hu : X.A.units + 1 < cLine) : IxR X rIxDK := by
  intro value slice pins s σ H x y v u Q I rx ry h hs
  obtain ⟨p, z, rfl, g, fin⟩ := h
  cases rx
  have dd := dict_typeIs I g
  unfold subscriptTail
  refine wpAny_bind ?_
  rw [getitemInPython_of_ne dd.not_modules]
  refine wpAny_bind (wpAny_specialOf dd PySem.F.slot_dict_getitem.lookup ?_)
  have fin : wpAny (model X.prog X.w) X.A (subscripted slice false (.ref p) u) (fun r s₃ => wpAny (model X.prog X.w) X.A (letTemporaryGo value (.ref p) r >>= fun _ => pure r) (EP X pins σ Q) X.xe s₃) X.xe s := by
    rw [hs]
    exact wpAny_operating (d_getItem hu I g ry fun w' s3 I3 rw' => wpAny_bind (wpAny_letTemporaryGo (wpAny_pure ⟨z, H, I3, rw', fin⟩)))
  first
    | exact wpAny_pure (wpAny_bind fin)
    | exact wpAny_bind (wpAny_pure (wpAny_bind fin))
    | exact wpAny_bind fin
/-- k in d -/
abbrev rInDT (K : PySem.W.Frag) : R2 := fun x y H Q => ∃ p b n xs ks, x = .ref b ∧ y = .ref p ∧ H p = some (DTO p (n, xs)) ∧ KeysIn K H xs ∧ SqT K H b (ks.map V.int) ∧ Q (.bl (atKey xs ks).isSome) H
abbrev rNotInDT (K : PySem.W.Frag) : R2 := fun x y H Q => ∃ p b n xs ks, x = .ref b ∧ y = .ref p ∧ H p = some (DTO p (n, xs)) ∧ KeysIn K H xs ∧ SqT K H b (ks.map V.int) ∧ Q (.bl (!(atKey xs ks).isSome)) H
abbrev rInDK : R2 := fun y x H Q => ∃ a o, x = .ref a ∧ DGet H a y o ∧ Q (.bl o.isSome) H
abbrev rNotInDK : R2 := fun y x H Q => ∃ a o, x = .ref a ∧ DGet H a y o ∧ Q (.bl (!o.isSome)) H
theorem op_inDT (hu : X.A.units + 1 < cLine) : OpR X (compareOp .In) (rInDT X.K) := by
  intro pins s σ H x y v u Q I rx ry h
  obtain ⟨p, b, n, xs, ks, rfl, rfl, e, kk, hk, fin⟩ := h
  cases rx; cases ry
  obtain ⟨dd, z1, z2⟩ := dto_ok I e kk
  exact wpAny_in_heap (tupleKind_room_in1 hu) (key_is I hk) z2 dd ⟨.bl _, H, I.tok _, rfl, fin⟩
theorem op_notInDT (hu : X.A.units + 1 < cLine) : OpR X (compareOp .NotIn) (rNotInDT X.K) := by
  intro pins s σ H x y v u Q I rx ry h
  obtain ⟨p, b, n, xs, ks, rfl, rfl, e, kk, hk, fin⟩ := h
  cases rx; cases ry
  obtain ⟨dd, z1, z2⟩ := dto_ok I e kk
  exact wpAny_notIn_heap (tupleKind_room_in1 hu) (key_is I hk) z2 dd ⟨.bl _, H, I.tok _, rfl, fin⟩
theorem op_inDK (hu : X.A.units + 1 < cLine) : OpR X (compareOp .In) rInDK := by
  intro pins s σ H x y v u Q I rx ry h
  obtain ⟨a, o, rfl, g, fin⟩ := h
  cases ry
  exact d_in hu I g rx fun s' I' => ⟨.bl _, H, I', rfl, fin⟩
theorem op_notInDK (hu : X.A.units + 1 < cLine) : OpR X (compareOp .NotIn) rNotInDK := by
  intro pins s σ H x y v u Q I rx ry h
  obtain ⟨a, o, rfl, g, fin⟩ := h
  cases ry
  exact d_notIn hu I g rx fun s' I' => ⟨.bl _, H, I', rfl, fin⟩
/-- d[k] = v -/
def rSetDT (K : PySem.W.Frag) : V → V → V → Hp → (Hp → Prop) → Prop := fun o i v H Q => ∃ p b n xs ks, o = .ref p ∧ i = .ref b ∧ H p = some (DTO p (n, xs)) ∧ KeysIn K H xs ∧ SqT K H b (ks.map V.int) ∧ xs.length < sizeLine ∧ ∀ u n', RelV v u → Q (upd H p (DTO p (n', storedH xs ks b u)))
theorem set_dt (hu : X.A.units + 1 < cLine) : PSet X (rSetDT X.K) := by
  intro pins s σ H o i v ov iv u Q I ro ri rv h
  obtain ⟨p, b, n, xs, ks, rfl, rfl, e, kk, hk, hl, fin⟩ := h
  cases ro; cases ri
  obtain ⟨dd, z1, z2⟩ := dto_ok I e kk
  refine wpAny_setItem_heap (hsz := z1) (tupleKind_room_in1 hu) (key_is I hk) dd fun h' dd' hs => ?_
  have he : ∃ q, h'.get? p = some q := let ⟨q, _, _, hq, _⟩ := dd'; ⟨q, hq⟩
  obtain ⟨n', mk⟩ := dto_new dd' (Nat.le_trans (storedH_len xs ks b u) hl) z2
  exact ⟨_, d_write I (by rw [e]; exact True.intro) hs he (mk _), fin u n' rv⟩
def rSetDK : V → V → V → Hp → (Hp → Prop) → Prop := fun o i v H Q => ∃ p kvs k, o = .ref p ∧ i = kV k ∧ H p = some (.dK kvs) ∧ kvs.length < sizeLine ∧ Q (upd H p (.dK (putK kvs k v)))
theorem set_dk (hu : X.A.units + 1 < cLine) : PSet X rSetDK := by
  intro pins s σ H o i v ov iv u Q I ro ri rv h
  obtain ⟨p, kvs, k, rfl, rfl, e, hl, fin⟩ := h
  cases ro
  exact d_setItem hu I (DPut.k e hl) ri rv fun s' I' => ⟨_, I', fin⟩
def rOrS (r r' : V → V → V → Hp → (Hp → Prop) → Prop) : V → V → V → Hp → (Hp → Prop) → Prop := fun o i v H Q => r o i v H Q ∨ r' o i v H Q
theorem set_or {r r' : V → V → V → Hp → (Hp → Prop) → Prop} (h : PSet X r) (h' : PSet X r') : PSet X (rOrS r r') := by
  intro pins s σ H o i v ov iv u Q I ro ri rv q
  rcases q with q | q
  · exact h pins s σ H o i v ov iv u Q I ro ri rv q
  · exact h' pins s σ H o i v ov iv u Q I ro ri rv q
/-- d.get(k), d.get(k, x) -/
theorem dto_isD (I : Inv X pins σ H s) (e : H a = some (DTO a (n, xs))) (k : KeysIn X.K H xs) :
    s.TypeIs (.ref a) "dict" ∧ (∀ b, Value.ref a = .ref b → ∃ ob, s.heap.get? b = some ob ∧ ob.dict = none) ∧ (a == sysModules) = false := by
  obtain ⟨dd, z1, z2⟩ := dto_ok I e k
  refine ⟨dd.typeIs, fun b q => ?_, z2⟩
  cases q
  obtain ⟨ob, _, _, h1, h2, _⟩ := dd
  exact ⟨ob, h1, h2.2.1⟩
def tGet1 (td ty : TE) (K : PySem.W.Frag) : TE := fun σ H Q => td σ H fun x H1 => ∃ a, x = .ref a ∧ ((IsD H1 a ∧ ty σ H1 fun y H2 => ∃ o, DGet H2 a y o ∧ Q (o.getD .non) H2) ∨
  ∃ n xs, H1 a = some (DTO a (n, xs)) ∧ KeysIn K H1 xs ∧ ty σ H1 fun y H2 => ∃ b ks z, y = .ref b ∧ H2 a = some (DTO a (n, xs)) ∧ KeysIn K H2 xs ∧ SqT K H2 b (ks.map V.int) ∧ RelV z (((atKey xs ks).map (·.2)).getD .none) ∧ Q z H2)
def tGet2 (td ty tx : TE) (K : PySem.W.Frag) : TE := fun σ H Q => td σ H fun x H1 => ∃ a, x = .ref a ∧ ((IsD H1 a ∧ ty σ H1 fun y H2 => tx σ H2 fun z H3 => ∃ o, DGet H3 a y o ∧ Q (o.getD z) H3) ∨
  ∃ n xs, H1 a = some (DTO a (n, xs)) ∧ KeysIn K H1 xs ∧ ty σ H1 fun y H2 => tx σ H2 fun d H3 => ∃ b ks z, y = .ref b ∧ H3 a = some (DTO a (n, xs)) ∧ KeysIn K H3 xs ∧ SqT K H3 b (ks.map V.int) ∧ (∀ u, RelV d u → RelV z (((atKey xs ks).map (·.2)).getD u)) ∧ Q z H3)
end
section
variable {X : Cx} {o e f : Expr} {apos cpos : Pos} {td ty tx : TE}
theorem pe_get1 (hu : X.A.units + 1 < cLine) (ho : PE X o td) (he : PE X e ty) (m : M1 X o "get" apos e cpos) : PE X (.Call (.Attribute o "get" apos) [e] [] cpos) (tGet1 td ty X.K) := by
  refine ⟨fun pins s σ H Q I h => ?_⟩
  refine wpAny_Call_method m.base m.few m.line PySem.F.plainAttrs_dict PySem.F.slot_dict_get PySem.F.type_dict_get (thn (ho.run pins s σ H _ I h) fun u s1 ⟨x, H1, I1, rx, a, ex, q1⟩ => ?_)
  subst ex
  obtain rfl : u = Value.ref a := rx
  rw [m.trees]
  rcases q1 with ⟨d, q1⟩ | ⟨n, xs, e1, k1, q1⟩
  · obtain ⟨t1, t2, _⟩ := isD_at I1 d
    refine ⟨t1, t2, ?_⟩
    refine Calls.callWith_builtin rfl (Calls.evalArgs_plain (Calls.spliced_cons (thn (he.run pins s1 σ H1 _ I1 q1) fun iv s2 ⟨y, H2, I2, ry, ov, g, q2⟩ => Calls.spliced_nil ?_)))
    exact d_get1 hu I2 g ry fun w' s3 I3 rw' => ⟨_, H2, I3, rw', q2⟩
  · obtain ⟨t1, t2, _⟩ := dto_isD I1 e1 k1
    refine ⟨t1, t2, ?_⟩
    refine Calls.callWith_builtin rfl (Calls.evalArgs_plain (Calls.spliced_cons (thn (he.run pins s1 σ H1 _ I1 q1) fun iv s2 ⟨y, H2, I2, ry, b, ks, z, ey, e2, k2, hk, rz, q2⟩ => Calls.spliced_nil ?_)))
    subst ey
    cases (show iv = Value.ref b from ry)
    obtain ⟨dd, z1, z2⟩ := dto_ok I2 e2 k2
    exact call_meetsIn PySem.F.slot_dict_get dd.typeIs PySem.F.entry_dict_get (PySem.F.args_dict_get_2 _ _) (meetsH_dict_get (tk X.prog X.w) a b z2) ⟨tupleKind_room_in1 hu, ks, xs, key_is I2 hk, dd, ⟨z, H2, I2.tok _, rz, q2⟩⟩
theorem pe_get2 (hu : X.A.units + 1 < cLine) (ho : PE X o td) (he : PE X e ty) (hf : PE X f tx) (m : M2 X o "get" apos e f cpos) : PE X (.Call (.Attribute o "get" apos) [e, f] [] cpos) (tGet2 td ty tx X.K) := by
  refine ⟨fun pins s σ H Q I h => ?_⟩
  refine wpAny_Call_method m.base m.few m.line PySem.F.plainAttrs_dict PySem.F.slot_dict_get PySem.F.type_dict_get (thn (ho.run pins s σ H _ I h) fun u s1 ⟨x, H1, I1, rx, a, ex, q1⟩ => ?_)
  subst ex
  obtain rfl : u = Value.ref a := rx
  rw [m.trees]
  rcases q1 with ⟨d, q1⟩ | ⟨n, xs, e1, k1, q1⟩
  · obtain ⟨t1, t2, _⟩ := isD_at I1 d
    refine ⟨t1, t2, ?_⟩
    refine Calls.callWith_builtin rfl (Calls.evalArgs_plain (Calls.spliced_cons (thn (he.run pins s1 σ H1 _ I1 q1) fun iv s2 ⟨y, H2, I2, ry, q2⟩ =>
      Calls.spliced_cons (thn (hf.run pins s2 σ H2 _ I2 q2) fun fv s3 ⟨z, H3, I3, rz, ov, g, q3⟩ => Calls.spliced_nil ?_))))
    exact d_get2 hu I3 g ry rz fun w' s4 I4 rw' => ⟨_, H3, I4, rw', q3⟩
  · obtain ⟨t1, t2, _⟩ := dto_isD I1 e1 k1
    refine ⟨t1, t2, ?_⟩
    refine Calls.callWith_builtin rfl (Calls.evalArgs_plain (Calls.spliced_cons (thn (he.run pins s1 σ H1 _ I1 q1) fun iv s2 ⟨y, H2, I2, ry, q2⟩ =>
      Calls.spliced_cons (thn (hf.run pins s2 σ H2 _ I2 q2) fun fv s3 ⟨d, H3, I3, rd, b, ks, z, ey, e3, k3, hk, rz, q3⟩ => Calls.spliced_nil ?_))))
    subst ey
    cases (show iv = Value.ref b from ry)
    obtain ⟨dd, z1, z2⟩ := dto_ok I3 e3 k3
    exact call_meetsIn PySem.F.slot_dict_get dd.typeIs PySem.F.entry_dict_get (PySem.F.args_dict_get_3 _ _ _) (meetsH_dict_get_default (tk X.prog X.w) a b z2 fv) ⟨tupleKind_room_in1 hu, ks, xs, key_is I3 hk, dd, ⟨z, H3, I3.tok _, rz fv rd, q3⟩⟩
end
/-! displays -/
section
variable {X : Cx} {pos : Pos}
theorem dto_empty {P : Program} {w : World} {H : Hp} (h : Heap) (hb : sysModules < h.objs.size) : ObjOk P w H (h.push { cls := .type "dict", data := .dict #[] }) h.objs.size (DTO h.objs.size (0, [])) :=
  ⟨⟨_, #[], Heap.get?_push_size _ rfl, ⟨rfl, rfl, rfl⟩, rfl, rfl, List.nodup_nil, Nat.zero_le _, beq_eq_false_iff_ne.mpr (Ne.symm (Nat.ne_of_lt hb))⟩, ⟨_, Heap.get?_push_size _ rfl⟩, fun k1 k2 ⟨o, es, h1, r⟩ k => ⟨o, es, k _ h1, r⟩⟩
def tDNewO : TE := fun _ H Q => ∀ p, H p = none → Q (.ref p) (upd H p (DTO p (0, [])))
theorem pe_dnewO : PE X (.Dict [] [] pos) tDNewO := ⟨fun pins s σ H Q I h =>
  wpAny_Dict_empty ⟨.ref s.heap.objs.size, _, I.laid (a := s.heap.objs.size) (o := DTO s.heap.objs.size (0, [])) (t' := s.toks) (fun _ _ q => Heap.get?_push_of_some _ q) (Nat.le_refl _) (dto_empty s.heap I.big), rfl, h _ (I.hok.fresh (Nat.le_refl _))⟩⟩
/-- {k: v}, k a tuple of ints -/
def tDisp1 (K : PySem.W.Frag) (t1 t2 : TE) : TE := fun σ H Q => ∀ p, H p = none → t1 σ (upd H p (DTO p (0, []))) fun x H1 => t2 σ H1 fun y H2 => H2 p = some (DTO p (0, [])) ∧ ∃ b ks, x = .ref b ∧ SqT K H2 b (ks.map V.int) ∧ ∀ u n, RelV y u → Q (.ref p) (upd H2 p (DTO p (n, [(ks, b, u)])))
theorem pe_disp1 {k v : Expr} {t1 t2 : TE} (hu : X.A.units + 1 < cLine) (hk : PE X k t1) (hv : PE X v t2) : PE X (.Dict [some k] [v] pos) (tDisp1 X.K t1 t2) := by
  refine ⟨fun pins s σ H Q I q => ?_⟩
  have hn := I.hok.fresh (Nat.le_refl s.heap.objs.size)
  have I1 := I.laid (a := s.heap.objs.size) (o := DTO s.heap.objs.size (0, [])) (h' := s.heap.push { cls := .type "dict", data := .dict #[] }) (t' := s.toks) (fun _ _ q => Heap.get?_push_of_some _ q) (Nat.le_refl _) (dto_empty s.heap I.big)
  rw [arm_eval_Dict, zip_pairTrees [some k] [v] X.env pos rfl rfl, dictDisplay_pairs (pairTrees [some k] [v] X.env pos) (by simp [pairTrees]) (by simp [pairTrees])]
  refine wpAny_bind (wpAny_standAt (wpAny_bind (wpAny_subDictH (knd := tk X.prog X.w) (Q := fun d s' => wpAny (model X.prog X.w) X.A (pure (Value.ref d)) (EP X pins σ Q) X.xe s') (show X.A.units < cLine by omega) (by simp [pairTrees]) ?_)))
  refine pairTrees_cons_walk (thn (hk.run pins _ σ _ _ I1 (q _ hn)) fun kv s1 ⟨x, H1, I1, rx, q1⟩ => thn (hv.run pins s1 σ H1 _ I1 q1) fun vv s2 ⟨y, H2, I2, ry, e, b, ks, ex, hb, q2⟩ => pairTrees_nil_walk ?_)
  subst ex
  cases (show kv = Value.ref b from rx)
  obtain ⟨dd, z1, z2⟩ := dto_ok I2 e (fun x hx => absurd hx (by simp))
  refine ⟨[(ks, b, vv)], ⟨rfl, rfl, key_is I2 hb, True.intro⟩, dd, fun h' tk' dd' hs => ?_⟩
  have he : ∃ q, h'.get? s.heap.objs.size = some q := let ⟨q, _, _, hq, _⟩ := dd'; ⟨q, hq⟩
  obtain ⟨n', mk⟩ := dto_new dd' (by rw [sizeLine_eq]; show 1 ≤ 16777216; decide) z2
  exact wpAny_pure ⟨.ref _, _, d_write I2 (by rw [e]; exact True.intro) hs he (mk _), rfl, q2 vv n' ry⟩
end
end VL

namespace VL
open PySem PySem.Spec PyProof.Rows L2

/-! ## dicts as values -/
section
variable {κ : Type} [DecidableEq κ]
def dGet (kvs : List (κ × PyData)) (k : κ) : Option PyData := (kvs.find? fun p => decide (p.1 = k)).map (·.2)
def dPut (kvs : List (κ × PyData)) (k : κ) (d : PyData) : List (κ × PyData) :=
  if (kvs.any fun p => decide (p.1 = k)) = true then kvs.map (fun p => if p.1 = k then (p.1, d) else p) else kvs ++ [(k, d)]
def dDrop (kvs : List (κ × PyData)) (k : κ) : List (κ × PyData) := kvs.filter fun p => decide (p.1 ≠ k)
@[simp] theorem dGet_nil (k : κ) : dGet [] k = none := rfl
theorem dGet_cons (p : κ × PyData) (kvs : List (κ × PyData)) (k : κ) : dGet (p :: kvs) k = if p.1 = k then some p.2 else dGet kvs k := by
  unfold dGet
  by_cases h : p.1 = k <;> simp [List.find?_cons, h]
theorem dGet_any (kvs : List (κ × PyData)) (k : κ) : (kvs.any fun p => decide (p.1 = k)) = (dGet kvs k).isSome := by
  induction kvs with
  | nil => rfl
  | cons p kvs ih =>
    rw [List.any_cons, dGet_cons, ih]
    by_cases h : p.1 = k <;> simp [h]
theorem dGet_put (kvs : List (κ × PyData)) (k j : κ) (d : PyData) : dGet (dPut kvs k d) j = if j = k then some d else dGet kvs j := by
  unfold dPut
  by_cases a : (kvs.any fun p => decide (p.1 = k)) = true
  · rw [if_pos a]
    induction kvs with
    | nil => simp at a
    | cons p kvs ih =>
      rw [List.map_cons, dGet_cons, dGet_cons]
      by_cases h : p.1 = k
      · simp only [h, if_true]
        by_cases hj : k = j
        · simp [hj]
        · rw [if_neg hj, if_neg hj, if_neg (fun z => hj z.symm)]
          by_cases b : (kvs.any fun p => decide (p.1 = k)) = true
          · rw [ih b, if_neg (fun z => hj z.symm)]
          · congr 1
            have : kvs.map (fun p => if p.1 = k then (p.1, d) else p) = kvs.map id := by
              apply List.map_congr_left
              intro q hq
              have : ¬ q.1 = k := fun z => b (List.any_eq_true.mpr ⟨q, hq, by simp [z]⟩)
              simp [this]
            have h2 := this
            simp only [List.map_id] at h2
            exact h2
      · have b : (kvs.any fun p => decide (p.1 = k)) = true := by
          rw [List.any_cons] at a; simpa [h] using a
        simp only [h, if_false]
        rw [ih b]
        by_cases hj : p.1 = j
        · have : ¬ j = k := fun z => h (hj.trans z)
          simp [hj, this]
        · simp [hj]
  · rw [if_neg a]
    have n : dGet kvs k = none := by
      rw [dGet_any] at a
      cases e : dGet kvs k with
      | none => rfl
      | some x => rw [e] at a; simp at a
    clear a
    induction kvs with
    | nil => rw [List.nil_append, dGet_cons]; by_cases h : k = j <;> simp [h, eq_comm]
    | cons p kvs ih =>
      rw [List.cons_append, dGet_cons, dGet_cons]
      rw [dGet_cons] at n
      by_cases h : p.1 = k
      · simp [h] at n
      · rw [if_neg h] at n
        rw [ih n]
        by_cases hj : p.1 = j
        · have : ¬ j = k := fun z => h (hj.trans z)
          simp [hj, this]
        · simp [hj]
theorem dPut_new {kvs : List (κ × PyData)} {k : κ} (d : PyData) (h : dGet kvs k = none) : dPut kvs k d = kvs ++ [(k, d)] := by
  unfold dPut
  rw [dGet_any, h]
  rfl
theorem dPut_keys_old {kvs : List (κ × PyData)} {k : κ} (d : PyData) (h : (dGet kvs k).isSome = true) : (dPut kvs k d).map (·.1) = kvs.map (·.1) := by
  unfold dPut
  rw [dGet_any, if_pos h, List.map_map]
  apply List.map_congr_left
  intro p _
  by_cases e : p.1 = k <;> simp [e]
theorem dGet_drop (kvs : List (κ × PyData)) (k j : κ) : dGet (dDrop kvs k) j = if j = k then none else dGet kvs j := by
  unfold dDrop
  induction kvs with
  | nil => simp
  | cons p kvs ih =>
    rw [List.filter_cons, dGet_cons]
    by_cases h : p.1 = k
    · simp only [h, ne_eq, not_true, decide_false, Bool.false_eq_true, if_false]
      rw [ih]
      by_cases hj : k = j
      · simp [hj]
      · have : ¬ j = k := fun z => hj z.symm
        simp [hj, this]
    · simp only [h, ne_eq, not_false_eq_true, decide_true, if_true]
      rw [dGet_cons, ih]
      by_cases hj : p.1 = j
      · have : ¬ j = k := fun z => h (hj.trans z)
        simp [hj, this]
      · simp [hj]
end
def keyD : PyData → Option Key
  | .int i => some (.inl i)
  | .str x => some (.inr x)
  | _ => none
def keyTD : PyData → Option (List Int)
  | .tuple xs => intsD xs
  | _ => none
section
variable {K : PySem.W.Frag} {ca : Nat → Addr} {H0 F H : Hp} {v : V} {r : RV}
theorem keyD_ok {x : PyData} {k : Key} (h : Dq K F v x) (e : keyD x = some k) : v = kV k := by
  cases x with
  | int i => cases h; cases e; rfl
  | str i => cases h; cases e; rfl
  | _ => cases e
theorem keyTD_ok {x : PyData} {k : List Int} (h : Dq K F v x) (e : keyTD x = some k) : ∃ b, v = .ref b ∧ SqT K F b (k.map V.int) := by
  cases x with
  | tuple xs =>
    cases h with
    | tup h1 h2 =>
      have := ints_ok h2 e
      subst this
      exact ⟨_, rfl, h1⟩
  | _ => cases e
theorem KTl.keys {xs : List (List Int × Addr × Value)} {kvs : List (List Int × PyData)} (h : KTl K F xs kvs) (s : Same F H) : KeysIn K H xs := by
  induction h with
  | nil => intro x hx; simp at hx
  | cons h1 _ ih =>
    intro x hx
    rcases List.mem_cons.mp hx with rfl | hx
    · exact same_seqT s h1.2.1
    · exact ih x hx
theorem KTl.len {xs : List (List Int × Addr × Value)} {kvs : List (List Int × PyData)} (h : KTl K F xs kvs) : xs.length = kvs.length := Paired.length h
theorem atKey_cons (p : List Int × Addr × Value) (xs : List (List Int × Addr × Value)) (k : List Int) : atKey (p :: xs) k = if p.1 = k then some p.2 else atKey xs k := by
  unfold atKey
  by_cases h : p.1 = k <;> simp [List.find?_cons, h]
/-- what stands at a key, on both sides -/
theorem KTl.at {xs : List (List Int × Addr × Value)} {kvs : List (List Int × PyData)} (h : KTl K F xs kvs) (k : List Int) : (atKey xs k = none ∧ dGet kvs k = none) ∨ ∃ q d v, atKey xs k = some q ∧ dGet kvs k = some d ∧ RelV v q.2 ∧ Dq K F v d := by
  induction h with
  | nil => exact .inl ⟨rfl, rfl⟩
  | @cons p q ps qs h1 h2 ih =>
    rw [atKey_cons, dGet_cons, ← h1.1]
    by_cases e : p.1 = k
    · rw [if_pos e, if_pos e]
      obtain ⟨v, r1, r2⟩ := h1.2.2
      exact .inr ⟨_, _, v, rfl, rfl, r1, r2⟩
    · rw [if_neg e, if_neg e]; exact ih
theorem KTl.repl {xs : List (List Int × Addr × Value)} {kvs : List (List Int × PyData)} (h : KTl K F xs kvs) (k : List Int) {u : Value} {w : V} {d : PyData} (r : RelV w u) (dq : Dq K F w d) : KTl K F (xs.map (putAt k u)) (kvs.map fun p => if p.1 = k then (p.1, d) else p) := by
  induction h with
  | nil => exact .nil
  | @cons p q ps qs h1 h2 ih =>
    rw [List.map_cons, List.map_cons]
    refine .cons ?_ ih
    unfold putAt
    by_cases e : p.1 = k
    · rw [if_pos e, if_pos (h1.1.symm.trans e)]; exact ⟨h1.1, h1.2.1, w, r, dq⟩
    · rw [if_neg e, if_neg (fun z => e (h1.1.trans z))]; exact h1
theorem KTl.put {xs : List (List Int × Addr × Value)} {kvs : List (List Int × PyData)} (h : KTl K F xs kvs) (k : List Int) {b : Addr} {u : Value} {w : V} {d : PyData} (hb : SqT K F b (k.map V.int)) (r : RelV w u) (q : Dq K F w d) : KTl K F (storedH xs k b u) (dPut kvs k d) := by
  have e : (kvs.any fun p => decide (p.1 = k)) = (atKey xs k).isSome := by
    rw [dGet_any]
    rcases h.at k with ⟨a, b⟩ | ⟨q, d, v, a, b, _⟩ <;> rw [a, b] <;> rfl
  unfold storedH dPut
  rw [e]
  by_cases c : (atKey xs k).isSome = true
  · rw [if_pos c, if_pos c]; exact h.repl k r q
  · rw [if_neg c, if_neg c]; exact Paired.snoc h ⟨rfl, hb, w, r, q⟩
/-- keys ints and texts -/
theorem KD.at {xs : List (Key × V)} {kvs : List (Key × PyData)} (h : KD K F xs kvs) (k : Key) : (valV xs k = none ∧ dGet kvs k = none) ∨ ∃ v d, valV xs k = some v ∧ dGet kvs k = some d ∧ Dq K F v d := by
  induction h with
  | nil => exact .inl ⟨rfl, rfl⟩
  | @cons p q ps qs h1 h2 ih =>
    rw [dGet_cons, ← h1.1]
    by_cases e : p.1 = k
    · rw [if_pos e, valV_pos e]; exact .inr ⟨_, _, rfl, rfl, h1.2⟩
    · rw [if_neg e, valV_neg e]; exact ih
theorem KD.put {xs : List (Key × V)} {kvs : List (Key × PyData)} (h : KD K F xs kvs) (k : Key) {w : V} {d : PyData} (q : Dq K F w d) : KD K F (putK xs k w) (dPut kvs k d) := by
  have e : (kvs.any fun p => decide (p.1 = k)) = (xs.any fun p => decide (p.1 = k)) := by
    rw [dGet_any, valV_any]
    rcases h.at k with ⟨a, b⟩ | ⟨q, d, a, b, _⟩ <;> rw [a, b] <;> rfl
  unfold putK dPut
  rw [e]
  by_cases c : (xs.any fun p => decide (p.1 = k)) = true
  · rw [if_pos c, if_pos c]
    clear e c
    induction h with
    | nil => exact .nil
    | @cons p r ps qs h1 h2 ih =>
      rw [List.map_cons, List.map_cons]
      refine .cons ?_ ih
      by_cases e : p.1 = k
      · rw [if_pos e, if_pos (h1.1.symm.trans e)]; exact ⟨h1.1, q⟩
      · rw [if_neg e, if_neg (fun z => e (h1.1.trans z))]; exact h1
  · rw [if_neg c, if_neg c]; exact Paired.snoc h ⟨rfl, q⟩
theorem KD.drop {xs : List (Key × V)} {kvs : List (Key × PyData)} (h : KD K F xs kvs) (k : Key) : KD K F (dropK xs k) (dDrop kvs k) := by
  unfold dropK dDrop
  induction h with
  | nil => exact .nil
  | @cons p r ps qs h1 h2 ih =>
    rw [List.filter_cons, List.filter_cons, ← h1.1]
    by_cases e : p.1 = k
    · simp only [e, ne_eq, not_true, decide_false, Bool.false_eq_true, if_false]; exact ih
    · simp only [e, ne_eq, not_false_eq_true, decide_true, if_true]; exact .cons h1 ih
/-! ### d[k], k in d -/
def RV.dk : RV → Option (List (Key × PyData))
  | .od kvs => some kvs
  | .bd kvs => some kvs
  | _ => none
def RV.dt : RV → Option (List (List Int × PyData))
  | .ot kvs => some kvs
  | .bt kvs => some kvs
  | _ => none
theorem dk_ok {kvs : List (Key × PyData)} (h : RVok K H0 F H v r) (e : r.dk = some kvs) : ∃ p xs, v = .ref p ∧ H p = some (.dK xs) ∧ KD K F xs kvs := by
  cases r with
  | od ys => cases e; obtain ⟨p, vs, e1, _, _, hp, q⟩ := h; exact ⟨p, vs, e1, hp, q⟩
  | bd ys => cases e; obtain ⟨p, vs, e1, hp, q⟩ := h; exact ⟨p, vs, e1, hp, q⟩
  | _ => cases e
theorem dt_ok {kvs : List (List Int × PyData)} (h : RVok K H0 F H v r) (e : r.dt = some kvs) : ∃ p n xs, v = .ref p ∧ H p = some (DTO p (n, xs)) ∧ KTl K F xs kvs := by
  cases r with
  | ot ys => cases e; obtain ⟨p, ⟨n, vs⟩, e1, _, _, hp, q⟩ := h; exact ⟨p, n, vs, e1, hp, q⟩
  | bt ys => cases e; obtain ⟨p, ⟨n, vs⟩, e1, hp, q⟩ := h; exact ⟨p, n, vs, e1, hp, q⟩
  | _ => cases e
def RV.sd : RV → Option PyData
  | .d x => some x
  | _ => none
theorem sd_ok {x : PyData} (h : RVok K H0 F H v r) (e : r.sd = some x) : Dq K F v x := by
  cases r with
  | d y => cases e; exact h
  | _ => cases e
def gGetDK (kvs : List (Key × PyData)) (b : RV) : Rs (Option PyData) := (rsO (b.sd.bind keyD)).bind fun k => .ok (dGet kvs k)
def gGetDT (kvs : List (List Int × PyData)) (b : RV) : Rs (Option PyData) := (rsO (b.sd.bind keyTD)).bind fun k => .ok (dGet kvs k)
/-- what a dict holds at a key -/
def gAt (a b : RV) : Rs (Option PyData) := match a.dk with
  | some kvs => gGetDK kvs b
  | none => (match a.dt with
    | some kvs => gGetDT kvs b
    | none => .no)
theorem gAt_ok {v1 v2 : V} {a b : RV} {o : Option PyData} (s : Same F H) (h1 : RVok K H0 F H v1 a) (h2 : RVok K H0 F H v2 b) (e : gAt a b = .ok o) :
    (∃ p z, v1 = .ref p ∧ DGet H p v2 z ∧ ((z = none ∧ o = none) ∨ ∃ w d, z = some w ∧ o = some d ∧ Dq K F w d)) ∨
    (∃ p c n xs ks, v1 = .ref p ∧ v2 = .ref c ∧ H p = some (DTO p (n, xs)) ∧ KeysIn K H xs ∧ SqT K H c (ks.map V.int) ∧ ((atKey xs ks = none ∧ o = none) ∨ ∃ q d w, atKey xs ks = some q ∧ o = some d ∧ RelV w q.2 ∧ Dq K F w d)) := by
  unfold gAt at e
  cases e1 : a.dk with
  | some kvs =>
    rw [e1] at e
    obtain ⟨p, xs, rfl, hp, kd⟩ := dk_ok h1 e1
    simp only [gGetDK] at e
    cases e2 : b.sd with
    | none => rw [e2] at e; cases e
    | some x =>
      rw [e2] at e
      simp only [Option.bind_some] at e
      cases e3 : keyD x with
      | none => rw [e3] at e; cases e
      | some k =>
        rw [e3] at e
        simp only [rsO_some, Rs.bind_ok, Rs.ok.injEq] at e
        subst e
        obtain rfl := keyD_ok (sd_ok h2 e2) e3
        refine .inl ⟨p, _, rfl, DGet.k hp, ?_⟩
        rcases kd.at k with h | ⟨w, d, h⟩
        · exact .inl h
        · exact .inr ⟨w, d, h⟩
  | none =>
    rw [e1] at e
    simp only at e
    cases e4 : a.dt with
    | none => rw [e4] at e; cases e
    | some kvs =>
      rw [e4] at e
      obtain ⟨p, n, xs, rfl, hp, kd⟩ := dt_ok h1 e4
      simp only [gGetDT] at e
      cases e2 : b.sd with
      | none => rw [e2] at e; cases e
      | some x =>
        rw [e2] at e
        simp only [Option.bind_some] at e
        cases e3 : keyTD x with
        | none => rw [e3] at e; cases e
        | some k =>
          rw [e3] at e
          simp only [rsO_some, Rs.bind_ok, Rs.ok.injEq] at e
          subst e
          obtain ⟨c, rfl, hc⟩ := keyTD_ok (sd_ok h2 e2) e3
          exact .inr ⟨p, c, n, xs, k, rfl, rfl, hp, kd.keys s, same_seqT s hc, kd.at k⟩
def gIxD (a b : RV) : Rs RV := (gAt a b).bind fun o => (rsO o).bind fun d => .ok (.d d)
def gInD (a b : RV) : Rs RV := (gAt b a).bind fun o => okB o.isSome
def gNotInD (a b : RV) : Rs RV := (gAt b a).bind fun o => okB (!o.isSome)
theorem gAt_ex {a b : RV} {c : Nat} {fs : List (Str × PyData)} : gAt a b ≠ .ex c fs := fun e => by
  unfold gAt gGetDK gGetDT at e
  split at e
  · cases e2 : b.sd.bind keyD <;> rw [e2] at e <;> cases e
  · split at e
    · cases e2 : b.sd.bind keyTD <;> rw [e2] at e <;> cases e
    · cases e
theorem s_ixD : Op2S K ca (fun x y H Q => rIxDK x y H Q ∨ rIxDT K x y H Q) gIxD := by
  intro W σ F0 H0 F H v1 v2 a b Q gr h1 h2 p
  unfold gIxD at p
  cases e : gAt a b with
  | no => rw [e] at p; exact p.elim
  | ex c fs => exact absurd e gAt_ex
  | ok o =>
    rw [e] at p
    rcases gAt_ok gr.cfg.sub h1 h2 e with ⟨q, z, rfl, g, hz⟩ | ⟨q, c, n, xs, ks, rfl, rfl, hp, kk, hk, hz⟩
    · rcases hz with ⟨rfl, rfl⟩ | ⟨w, d, rfl, rfl, dq⟩
      · exact p.elim
      · exact .inl ⟨q, w, rfl, g, p F H _ gr dq⟩
    · rcases hz with ⟨_, rfl⟩ | ⟨q', d, w, hq, rfl, rw', dq⟩
      · exact p.elim
      · exact .inr ⟨q, c, n, xs, ks, q', w, rfl, rfl, hp, kk, hk, hq, rw', p F H _ gr dq⟩
theorem s_inD : Op2S K ca (rOr rInDK (rInDT K)) gInD := by
  intro W σ F0 H0 F H v1 v2 a b Q gr h1 h2 p
  unfold gInD at p
  cases e : gAt b a with
  | no => rw [e] at p; exact p.elim
  | ex c fs => exact absurd e gAt_ex
  | ok o =>
    rw [e] at p
    rcases gAt_ok gr.cfg.sub h2 h1 e with ⟨q, z, rfl, g, hz⟩ | ⟨q, c, n, xs, ks, rfl, rfl, hp, kk, hk, hz⟩
    · refine .inl ⟨q, z, rfl, g, ?_⟩
      rcases hz with ⟨rfl, rfl⟩ | ⟨w, d, rfl, rfl, dq⟩ <;> exact p F H _ gr (.bl _)
    · refine .inr ⟨q, c, n, xs, ks, rfl, rfl, hp, kk, hk, ?_⟩
      rcases hz with ⟨e1, rfl⟩ | ⟨q', d, w, hq, rfl, rw', dq⟩
      · rw [e1]; exact p F H _ gr (.bl _)
      · rw [hq]; exact p F H _ gr (.bl _)
theorem s_notInD : Op2S K ca (rOr rNotInDK (rNotInDT K)) gNotInD := by
  intro W σ F0 H0 F H v1 v2 a b Q gr h1 h2 p
  unfold gNotInD at p
  cases e : gAt b a with
  | no => rw [e] at p; exact p.elim
  | ex c fs => exact absurd e gAt_ex
  | ok o =>
    rw [e] at p
    rcases gAt_ok gr.cfg.sub h2 h1 e with ⟨q, z, rfl, g, hz⟩ | ⟨q, c, n, xs, ks, rfl, rfl, hp, kk, hk, hz⟩
    · refine .inl ⟨q, z, rfl, g, ?_⟩
      rcases hz with ⟨rfl, rfl⟩ | ⟨w, d, rfl, rfl, dq⟩ <;> exact p F H _ gr (.bl _)
    · refine .inr ⟨q, c, n, xs, ks, rfl, rfl, hp, kk, hk, ?_⟩
      rcases hz with ⟨e1, rfl⟩ | ⟨q', d, w, hq, rfl, rw', dq⟩
      · rw [e1]; exact p F H _ gr (.bl _)
      · rw [hq]; exact p F H _ gr (.bl _)
end
section
variable {ca : Nat → Addr} {W : WX} {X : Cx} {a b e : Expr} {es : List Expr} {fa fb fc : VEnv → Rs RV} {pos apos cpos : Pos}
theorem ix_d (hu : X.A.units + 1 < cLine) : IxR X (fun x y H Q => rIxDK x y H Q ∨ rIxDT X.K x y H Q) := (ix_dk hu).or (ix_dt hu)
theorem op_inD2 (hu : X.A.units + 1 < cLine) : OpR X (compareOp .In) (rOr rInDK (rInDT X.K)) := op_or' (op_inDK hu) (op_inDT hu)
theorem op_notInD2 (hu : X.A.units + 1 < cLine) : OpR X (compareOp .NotIn) (rOr rNotInDK (rNotInDT X.K)) := op_or' (op_notInDK hu) (op_notInDT hu)
theorem hu1 {A : Around} {k : Nat} (hr : Room k A) : A.units + 1 < cLine := by have := hr.un; omega
/-! ### {} -/
def cDT : VEnv → Rs RV := fun _ => .ok (.ot [])
def cDK : VEnv → Rs RV := fun _ => .ok (.od [])
theorem ve_dnewT : VE ca W X (.Dict [] [] pos) cDT := by
  refine ⟨_, pe_dnewO, fun B F env σ H Q st p q n => ?_⟩
  have g := Grow.newO st.cfg (DTO q (0, [])) n DTO_tup
  exact p _ _ _ g ⟨q, (0, []), rfl, n, same_none st.cfg.sub n, upd_same, .nil⟩
theorem ve_dnewK : VE ca W X (.Dict [] [] pos) cDK := by
  refine ⟨_, pe_dnewK, fun B F env σ H Q st p q n => ?_⟩
  have g := Grow.newO st.cfg (.dK []) n (fun _ z => by cases z)
  exact p _ _ _ g ⟨q, [], rfl, n, same_none st.cfg.sub n, upd_same, .nil⟩
/-- {k: v} -/
def cDisp1 (fa fb : VEnv → Rs RV) : VEnv → Rs RV := fun env => (fa env).bind fun x => (fb env).bind fun y => (rsO (x.sd.bind keyTD)).bind fun k => (rsO y.toD).bind fun d => .ok (.ot [(k, d)])
theorem ve_disp1 (hu : X.A.units + 1 < cLine) (ha : VE ca W X a fa) (hb : VE ca W X b fb) : VE ca W X (.Dict [some a] [b] pos) (cDisp1 fa fb) := by
  obtain ⟨ta, pa, sa⟩ := ha
  obtain ⟨tb, pb, sb⟩ := hb
  refine ⟨_, pe_disp1 hu pa pb, fun B F env σ H Q st p q n => ?_⟩
  have g := Grow.newO st.cfg (DTO q (0, [])) n DTO_tup
  have st0 := st.grow g
  refine seqE (PostE X.K ca W σ F H Q) sa st0 p (fun _ _ h => PostX.mono g h) (fun h => h) fun x F1 H1 v1 p1 g1 q1 => ?_
  refine seqE (PostE X.K ca W σ F H Q) sb (st0.grow g1) p1 (fun _ _ h => PostX.mono (g.trans g1) h) (fun h => h) fun y F2 H2 v2 p2 g2 q2 => ?_
  have hq : H2 q = some (DTO q (0, [])) := (g1.trans g2).hh _ _ upd_same
  cases e1 : x.sd with
  | none => rw [e1] at p2; exact p2.elim
  | some d1 =>
    rw [e1] at p2
    simp only [Option.bind_some] at p2
    cases e2 : keyTD d1 with
    | none => rw [e2] at p2; exact p2.elim
    | some k =>
      rw [e2] at p2
      simp only [rsO_some, Rs.bind_ok] at p2
      cases e3 : y.toD with
      | none => rw [e3] at p2; exact p2.elim
      | some d2 =>
        rw [e3] at p2
        simp only [rsO_some, Rs.bind_ok] at p2
        obtain ⟨c, rfl, hc⟩ := keyTD_ok (sd_ok (q1.grow g2) e1) e2
        obtain ⟨F3, g3, s3, q3⟩ := frz g2 (Fz.of q2 e3)
        have f1 : F1 q = none := g1.stillFree (same_none st.cfg.sub n) upd_same
        have f3 : F3 q = none := g3.stillFree f1 (g1.hh _ _ upd_same)
        have hc3 := same_seqT s3 hc
        refine ⟨hq, c, k, rfl, same_seqT g3.cfg.sub hc3, fun u n' ru => ?_⟩
        exact p2 _ _ _ ((g.trans (g1.trans g3)).write n f3 hq DTO_tup) ⟨q, (n', [(k, c, u)]), rfl, n, f3, upd_same, .cons ⟨rfl, hc3, v2, ru, q3⟩ .nil⟩
/-- {"a": "b", "c": "d"} -/
def cDispS (x y z w : Str) : VEnv → Rs RV := fun _ => .ok (.od [(.inr x, .str y), (.inr z, .str w)])
theorem ve_dispS {x y z w : Str} {k1 k2 k3 k4 : Nat} {p1 p2 p3 p4 : Pos} (hne : x ≠ z) : VE ca W X (.Dict [some (.Constant (.str x) k1 p1), some (.Constant (.str z) k2 p2)] [.Constant (.str y) k3 p3, .Constant (.str w) k4 p4] pos) (cDispS x y z w) := by
  refine ⟨_, pe_disp (pps_cons pe_str pe_str (pps_cons pe_str pe_str pps_nil)) rfl rfl (by simp) (by simp), fun B F env σ H Q st p q n => ?_⟩
  have g := Grow.newO st.cfg (.dK []) n (fun _ z => by cases z)
  have nF := same_none st.cfg.sub n
  refine ⟨upd_same, [(.inr x, .str y), (.inr z, .str w)], rfl, by simp, ?_⟩
  have e : mergeK [] [((.inr x : Key), V.str y), (.inr z, .str w)] = [((.inr x : Key), V.str y), (.inr z, .str w)] := by
    have h2 : ¬ ((Sum.inr x : Key) = .inr z) := fun h => hne (by injection h)
    show putK (putK [] (Sum.inr x) (V.str y)) (Sum.inr z) (V.str w) = _
    have h1 : putK [] (Sum.inr x : Key) (V.str y) = [(Sum.inr x, V.str y)] := rfl
    rw [h1, putK_new _ (by rw [valV_neg h2]; rfl)]
    rfl
  rw [e]
  exact p _ _ _ (g.write n nF upd_same (fun _ z => by cases z)) ⟨q, _, rfl, n, nF, upd_same, .cons ⟨rfl, .str _⟩ (.cons ⟨rfl, .str _⟩ .nil)⟩
/-! ### d[k] = e, xs[i] = e -/
/-- the store into a dict or a list of the def's own -/
def stR (r0 : RV) (ix : RV) (d : PyData) : Rs RV := match r0 with
  | .ol xs => (match ix with
    | .d (.int k) => (rsO (ixN xs.length k)).bind fun j => .ok (.ol (xs.set j d))
    | _ => .no)
  | .od kvs => (rsO (ix.sd.bind keyD)).bind fun k => if kvs.length ≤ 1000000 then .ok (.od (dPut kvs k d)) else .no
  | .ot kvs => (rsO (ix.sd.bind keyTD)).bind fun k => if kvs.length ≤ 1000000 then .ok (.ot (dPut kvs k d)) else .no
  | _ => .no
def sStoreA (i : Nat) (fi fe : VEnv → Rs RV) : VEnv → Out := fun env => match env[i]? with
  | some (some r0) => (fe env).out env fun r => (fi env).out env fun ix => (rsO r.toD).out env fun d => (stR r0 ix d).out env fun r1 => .nx (env.set i (some r1))
  | _ => .no
theorem vs_storeA (i : Nat) {x : Str} {ie : Expr} {p1 p2 : Pos} {fi : VEnv → Rs RV} (hu : X.A.units + 1 < cLine) (he : VE ca W X e fa) (hi : VE ca W X ie fi) (hN : X.N[i]? = some x := by rfl) (hv : Vis X.env.scope x := by first | exact Or.inl rfl | exact Or.inr (Or.inl rfl) | exact Or.inr (Or.inr rfl)) (hd : (x == ("__debug__" : Str)) = false := by decide) (hcd : (x == ("__classdict__" : Str)) = false := by decide)
    (ha : ∀ v, assign (.Subscript (.Name x p1) ie p2) X.env v = (do
      let ov ← holding [v] (eval (.Name x p1) X.env)
      let iv ← holding [v, ov] (eval ie X.env)
      standAt p2
      holding [v, ov, iv] (setItem ov iv v)
      release [v, ov, iv] []) := by intro _; rfl)
    (hs : swapsWithSole [.Subscript (.Name x p1) ie p2] e pos.line X.env = pure false := by rfl) (hw : swappedStores [.Subscript (.Name x p1) ie p2] e X.env = pure none := by rfl)
    (h1 : (assignEach [.Subscript (.Name x p1) ie p2] X.env).map (·.2) = [assign (.Subscript (.Name x p1) ie p2) X.env] := by rfl) :
    VS ca W X (.Assign [.Subscript (.Name x p1) ie p2] e pos) (sStoreA i fi fa) := by
  obtain ⟨t, pe, se⟩ := he
  obtain ⟨ti, pi, si⟩ := hi
  refine ⟨_, ps_asg pe (pg_sub (pe_var hN hv hd hcd) pi (set_or set_list (set_or (set_dk hu) (set_dt hu))) ha) hs hw h1, fun B F env σ H D st p => ?_⟩
  show t σ H fun v H1 => ∃ o, σ[i]? = some (some o) ∧ ti σ H1 fun iv H3 => rOrS rSetL (rOrS rSetDK (rSetDT X.K)) o iv v H3 fun H4 => D.nx σ H4
  unfold sStoreA at p
  split at p
  · rename_i r0 e1
    obtain ⟨v0, s1, ok0⟩ := st.sl i r0 e1
    refine outE se st p fun r F1 H1 v p1 g q1 => ⟨_, s1, ?_⟩
    refine outE si (st.grow g) p1 fun ix F2 H2 w p2 g2 q2 => ?_
    cases e2 : r.toD with
    | none => rw [e2] at p2; exact p2.elim
    | some d =>
      rw [e2] at p2
      simp only [rsO_some, Rs.out_ok] at p2
      obtain ⟨F3, g3, s3, q3⟩ := frz (g.trans g2) (Fz.of (q1.grow g2) e2)
      cases r0 with
      | ol xs =>
        obtain ⟨a, vs, rfl, n0, f0, hp, q⟩ := ok0
        have hp3 := g3.hh _ _ hp
        have f3 := g3.stillFree f0 hp
        cases ix with
        | d y =>
          cases y with
          | int k =>
            simp only [stR] at p2
            cases e3 : ixN xs.length k with
            | none => rw [e3] at p2; exact p2.elim
            | some j =>
              rw [e3] at p2
              cases q2
              refine .inl ⟨a, vs, k, j, rfl, rfl, hp3, by rw [q.length]; exact e3, ?_⟩
              exact p2 F3 σ _ s3 ((st.grow g3).write (r1 := .ol (xs.set j d)) e1 rfl s1 hp3 n0 f3 (fun _ z => by cases z) ⟨a, _, rfl, n0, f3, upd_same, DqA.set q3 j (DqA.mono g3.ff _ _ q)⟩ rfl)
          | _ => exact p2.elim
        | _ => exact p2.elim
      | od kvs =>
        obtain ⟨a, vs, rfl, n0, f0, hp, q⟩ := ok0
        have hp3 := g3.hh _ _ hp
        have f3 := g3.stillFree f0 hp
        simp only [stR] at p2
        cases e4 : ix.sd with
        | none => rw [e4] at p2; exact p2.elim
        | some y =>
          rw [e4] at p2
          simp only [Option.bind_some] at p2
          cases e5 : keyD y with
          | none => rw [e5] at p2; exact p2.elim
          | some k =>
            rw [e5] at p2
            simp only [rsO_some, Rs.bind_ok] at p2
            split at p2
            · rename_i hz
              obtain rfl := keyD_ok (sd_ok q2 e4) e5
              refine .inr (.inl ⟨a, vs, k, rfl, rfl, hp3, by rw [q.length]; exact million hz, ?_⟩)
              exact p2 F3 σ _ s3 ((st.grow g3).write (r1 := .od (dPut kvs k d)) e1 rfl s1 hp3 n0 f3 (fun _ z => by cases z) ⟨a, _, rfl, n0, f3, upd_same, (q.mono g3.ff).put k q3⟩ rfl)
            · exact p2.elim
      | ot kvs =>
        obtain ⟨a, ⟨n, vs⟩, rfl, n0, f0, hp, q⟩ := ok0
        have hp3 := g3.hh _ _ hp
        have f3 := g3.stillFree f0 hp
        simp only [stR] at p2
        cases e4 : ix.sd with
        | none => rw [e4] at p2; exact p2.elim
        | some y =>
          rw [e4] at p2
          simp only [Option.bind_some] at p2
          cases e5 : keyTD y with
          | none => rw [e5] at p2; exact p2.elim
          | some k =>
            rw [e5] at p2
            simp only [rsO_some, Rs.bind_ok] at p2
            split at p2
            · rename_i hz
              obtain ⟨c, rfl, hc⟩ := keyTD_ok (sd_ok q2 e4) e5
              have q' : KTl X.K F3 vs kvs := q.mono g3.ff
              have hc3 := same_seqT s3 hc
              refine .inr (.inr ⟨a, c, n, vs, k, rfl, rfl, hp3, q'.keys g3.cfg.sub, same_seqT g3.cfg.sub hc3, by rw [q'.len]; exact million hz, fun u n' ru => ?_⟩)
              exact p2 F3 σ _ s3 ((st.grow g3).write (r1 := .ot (dPut kvs k d)) e1 rfl s1 hp3 n0 f3 DTO_tup ⟨a, (n', _), rfl, n0, f3, upd_same, q'.put k hc3 ru q3⟩ rfl)
            · exact p2.elim
      | _ => exact p2.elim
  · exact p.elim
/-- del d[k] -/
def sDel (i : Nat) (fi : VEnv → Rs RV) : VEnv → Out := fun env => match env[i]? with
  | some (some (.od kvs)) => (fi env).out env fun ix => (rsO (ix.sd.bind keyD)).out env fun k => if (dGet kvs k).isSome = true then .nx (env.set i (some (.od (dDrop kvs k)))) else .no
  | _ => .no
theorem vs_del (i : Nat) {x : Str} {ie : Expr} {p1 p2 : Pos} {fi : VEnv → Rs RV} (hi : VE ca W X ie fi) (hN : X.N[i]? = some x := by rfl) (hv : Vis X.env.scope x := by first | exact Or.inl rfl | exact Or.inr (Or.inl rfl) | exact Or.inr (Or.inr rfl)) (hd : (x == ("__debug__" : Str)) = false := by decide) (hcd : (x == ("__classdict__" : Str)) = false := by decide) :
    VS ca W X (.Delete [.Subscript (.Name x p1) ie p2] pos) (sDel i fi) := by
  obtain ⟨ti, pi, si⟩ := hi
  refine ⟨_, ps_ddel (pe_var hN hv hd hcd) pi, fun B F env σ H D st p => ?_⟩
  show ∃ v, σ[i]? = some (some v) ∧ ti σ H fun y H2 => ∃ a kvs k, v = .ref a ∧ H2 a = some (.dK kvs) ∧ y = kV k ∧ (valV kvs k).isSome = true ∧ D.nx σ (upd H2 a (.dK (dropK kvs k)))
  unfold sDel at p
  split at p
  · rename_i kvs e1
    obtain ⟨v0, s1, a, vs, rfl, n0, f0, hp, q⟩ := st.sl i _ e1
    refine ⟨_, s1, ?_⟩
    refine outE si st p fun ix F2 H2 w p2 g2 q2 => ?_
    cases e4 : ix.sd with
    | none => rw [e4] at p2; exact p2.elim
    | some y =>
      rw [e4] at p2
      simp only [Option.bind_some] at p2
      cases e5 : keyD y with
      | none => rw [e5] at p2; exact p2.elim
      | some k =>
        rw [e5] at p2
        simp only [rsO_some, Rs.out_ok] at p2
        split at p2
        · rename_i hz
          obtain rfl := keyD_ok (sd_ok q2 e4) e5
          have hp2 := g2.hh _ _ hp
          have f2 := g2.stillFree f0 hp
          have q' := q.mono g2.ff
          refine ⟨a, vs, k, rfl, hp2, rfl, ?_, ?_⟩
          · rcases q'.at k with ⟨_, h⟩ | ⟨w, d, h, _⟩
            · rw [h] at hz; cases hz
            · rw [h]; rfl
          · exact p2 F2 σ _ (Same.refl _) ((st.grow g2).write (r1 := .od (dDrop kvs k)) e1 rfl s1 hp2 n0 f2 (fun _ z => by cases z) ⟨a, _, rfl, n0, f2, upd_same, q'.drop k⟩ rfl)
        · exact p2.elim
  · exact p.elim
/-! ### d.get -/
theorem gGetDK_ok {K : PySem.W.Frag} {H0 F H : Hp} {v : V} {y : RV} {kvs : List (Key × PyData)} {o : Option PyData} (h : RVok K H0 F H v y) (e : gGetDK kvs y = .ok o) : ∃ k, v = kV k ∧ o = dGet kvs k := by
  unfold gGetDK at e
  cases e2 : y.sd with
  | none => rw [e2] at e; cases e
  | some x =>
    rw [e2] at e
    simp only [Option.bind_some] at e
    cases e3 : keyD x with
    | none => rw [e3] at e; cases e
    | some k =>
      rw [e3] at e
      simp only [rsO_some, Rs.bind_ok, Rs.ok.injEq] at e
      exact ⟨k, keyD_ok (sd_ok h e2) e3, e.symm⟩
theorem gGetDT_ok {K : PySem.W.Frag} {H0 F H : Hp} {v : V} {y : RV} {kvs : List (List Int × PyData)} {o : Option PyData} (h : RVok K H0 F H v y) (e : gGetDT kvs y = .ok o) : ∃ c ks, v = .ref c ∧ SqT K F c (ks.map V.int) ∧ o = dGet kvs ks := by
  unfold gGetDT at e
  cases e2 : y.sd with
  | none => rw [e2] at e; cases e
  | some x =>
    rw [e2] at e
    simp only [Option.bind_some] at e
    cases e3 : keyTD x with
    | none => rw [e3] at e; cases e
    | some k =>
      rw [e3] at e
      simp only [rsO_some, Rs.bind_ok, Rs.ok.injEq] at e
      obtain ⟨c, rfl, hc⟩ := keyTD_ok (sd_ok h e2) e3
      exact ⟨c, k, rfl, hc, e.symm⟩
theorem gGetDK_ex {y : RV} {kvs : List (Key × PyData)} {c : Nat} {fs : List (Str × PyData)} : gGetDK kvs y ≠ .ex c fs := fun e => by
  unfold gGetDK at e
  cases e2 : y.sd.bind keyD <;> rw [e2] at e <;> cases e
theorem gGetDT_ex {y : RV} {kvs : List (List Int × PyData)} {c : Nat} {fs : List (Str × PyData)} : gGetDT kvs y ≠ .ex c fs := fun e => by
  unfold gGetDT at e
  cases e2 : y.sd.bind keyTD <;> rw [e2] at e <;> cases e
def cGet1 (fa fb : VEnv → Rs RV) : VEnv → Rs RV := fun env => (fa env).bind fun x => match x.dk with
  | some kvs => (fb env).bind fun y => (gGetDK kvs y).bind fun o => .ok (.d (o.getD .none))
  | none => (match x.dt with
    | some kvs => (fb env).bind fun y => (gGetDT kvs y).bind fun o => .ok (.d (o.getD .none))
    | none => .no)
def cGet2 (fa fb fc : VEnv → Rs RV) : VEnv → Rs RV := fun env => (fa env).bind fun x => match x.dk with
  | some kvs => (fb env).bind fun y => (fc env).bind fun z => (rsO z.sd).bind fun d => (gGetDK kvs y).bind fun o => .ok (.d (o.getD d))
  | none => (match x.dt with
    | some kvs => (fb env).bind fun y => (fc env).bind fun z => (rsO z.sd).bind fun d => (gGetDT kvs y).bind fun o => .ok (.d (o.getD d))
    | none => .no)
theorem ve_get1 (hu : X.A.units + 1 < cLine) (ha : VE ca W X a fa) (hb : VE ca W X b fb) (m : M1 X a "get" apos b cpos) : VE ca W X (.Call (.Attribute a "get" apos) [b] [] cpos) (cGet1 fa fb) := by
  obtain ⟨ta, pa, sa⟩ := ha
  obtain ⟨tb, pb, sb⟩ := hb
  refine ⟨_, pe_get1 hu pa pb m, fun B F env σ H Q st p => ?_⟩
  unfold tGet1
  refine seqE (PostE X.K ca W σ F H Q) sa st p (fun _ _ h => h) (fun h => h) fun x F1 H1 v1 p1 g1 q1 => ?_
  cases e1 : x.dk with
  | some kvs =>
    rw [e1] at p1
    obtain ⟨p', xs, rfl, hp, kd⟩ := dk_ok q1 e1
    refine ⟨p', rfl, .inl ⟨.inl ⟨xs, .inl hp⟩, ?_⟩⟩
    refine seqE (PostE X.K ca W σ F H Q) sb (st.grow g1) p1 (fun _ _ h => PostX.mono g1 h) (fun h => h) fun y F2 H2 v2 p2 g2 q2 => ?_
    cases e : gGetDK kvs y with
    | no => rw [e] at p2; exact p2.elim
    | ex c fs => exact absurd e gGetDK_ex
    | ok o =>
      rw [e] at p2
      obtain ⟨k, rfl, rfl⟩ := gGetDK_ok q2 e
      refine ⟨_, DGet.k (g2.hh _ _ hp), ?_⟩
      rcases (kd.mono g2.ff).at k with ⟨h1, h2⟩ | ⟨w, d, h1, h2, dq⟩
      · rw [h2] at p2; rw [h1]; exact p2 F2 H2 _ (g1.trans g2) .non
      · rw [h2] at p2; rw [h1]; exact p2 F2 H2 _ (g1.trans g2) dq
  | none =>
    rw [e1] at p1
    cases e4 : x.dt with
    | none => rw [e4] at p1; exact p1.elim
    | some kvs =>
      rw [e4] at p1
      obtain ⟨p', n, xs, rfl, hp, kd⟩ := dt_ok q1 e4
      refine ⟨p', rfl, .inr ⟨n, xs, hp, kd.keys g1.cfg.sub, ?_⟩⟩
      refine seqE (PostE X.K ca W σ F H Q) sb (st.grow g1) p1 (fun _ _ h => PostX.mono g1 h) (fun h => h) fun y F2 H2 v2 p2 g2 q2 => ?_
      cases e : gGetDT kvs y with
      | no => rw [e] at p2; exact p2.elim
      | ex c fs => exact absurd e gGetDT_ex
      | ok o =>
        rw [e] at p2
        obtain ⟨c, k, rfl, hc, rfl⟩ := gGetDT_ok q2 e
        have kd2 := kd.mono g2.ff
        rcases kd2.at k with ⟨h1, h2⟩ | ⟨q, d, w, h1, h2, rw', dq⟩
        · rw [h2] at p2
          exact ⟨c, k, .non, rfl, g2.hh _ _ hp, kd2.keys g2.cfg.sub, same_seqT g2.cfg.sub hc, by rw [h1]; rfl, p2 F2 H2 _ (g1.trans g2) .non⟩
        · rw [h2] at p2
          exact ⟨c, k, w, rfl, g2.hh _ _ hp, kd2.keys g2.cfg.sub, same_seqT g2.cfg.sub hc, by rw [h1]; exact rw', p2 F2 H2 _ (g1.trans g2) dq⟩
theorem ve_get2 {c : Expr} (hu : X.A.units + 1 < cLine) (ha : VE ca W X a fa) (hb : VE ca W X b fb) (hc : VE ca W X c fc) (m : M2 X a "get" apos b c cpos) : VE ca W X (.Call (.Attribute a "get" apos) [b, c] [] cpos) (cGet2 fa fb fc) := by
  obtain ⟨ta, pa, sa⟩ := ha
  obtain ⟨tb, pb, sb⟩ := hb
  obtain ⟨tc, pc, sc⟩ := hc
  refine ⟨_, pe_get2 hu pa pb pc m, fun B F env σ H Q st p => ?_⟩
  unfold tGet2
  refine seqE (PostE X.K ca W σ F H Q) sa st p (fun _ _ h => h) (fun h => h) fun x F1 H1 v1 p1 g1 q1 => ?_
  cases e1 : x.dk with
  | some kvs =>
    rw [e1] at p1
    obtain ⟨p', xs, rfl, hp, kd⟩ := dk_ok q1 e1
    refine ⟨p', rfl, .inl ⟨.inl ⟨xs, .inl hp⟩, ?_⟩⟩
    refine seqE (PostE X.K ca W σ F H Q) sb (st.grow g1) p1 (fun _ _ h => PostX.mono g1 h) (fun h => h) fun y F2 H2 v2 p2 g2 q2 => ?_
    refine seqE (PostE X.K ca W σ F H Q) sc ((st.grow g1).grow g2) p2 (fun _ _ h => PostX.mono (g1.trans g2) h) (fun h => h) fun z F3 H3 v3 p3 g3 q3 => ?_
    cases ez : z.sd with
    | none => rw [ez] at p3; exact p3.elim
    | some dz =>
    rw [ez] at p3
    simp only [rsO_some, Rs.bind_ok] at p3
    have dqz := sd_ok q3 ez
    cases e : gGetDK kvs y with
    | no => rw [e] at p3; exact p3.elim
    | ex c fs => exact absurd e gGetDK_ex
    | ok o =>
      rw [e] at p3
      obtain ⟨k, rfl, rfl⟩ := gGetDK_ok q2 e
      refine ⟨_, DGet.k ((g2.trans g3).hh _ _ hp), ?_⟩
      rcases (kd.mono (g2.trans g3).ff).at k with ⟨h1, h2⟩ | ⟨w, d, h1, h2, dq⟩
      · rw [h2] at p3; rw [h1]; exact p3 F3 H3 _ ((g1.trans g2).trans g3) dqz
      · rw [h2] at p3; rw [h1]; exact p3 F3 H3 _ ((g1.trans g2).trans g3) dq
  | none =>
    rw [e1] at p1
    cases e4 : x.dt with
    | none => rw [e4] at p1; exact p1.elim
    | some kvs =>
      rw [e4] at p1
      obtain ⟨p', n, xs, rfl, hp, kd⟩ := dt_ok q1 e4
      refine ⟨p', rfl, .inr ⟨n, xs, hp, kd.keys g1.cfg.sub, ?_⟩⟩
      refine seqE (PostE X.K ca W σ F H Q) sb (st.grow g1) p1 (fun _ _ h => PostX.mono g1 h) (fun h => h) fun y F2 H2 v2 p2 g2 q2 => ?_
      refine seqE (PostE X.K ca W σ F H Q) sc ((st.grow g1).grow g2) p2 (fun _ _ h => PostX.mono (g1.trans g2) h) (fun h => h) fun z F3 H3 v3 p3 g3 q3 => ?_
      cases ez : z.sd with
      | none => rw [ez] at p3; exact p3.elim
      | some dz =>
      rw [ez] at p3
      simp only [rsO_some, Rs.bind_ok] at p3
      have dqz := sd_ok q3 ez
      cases e : gGetDT kvs y with
      | no => rw [e] at p3; exact p3.elim
      | ex c fs => exact absurd e gGetDT_ex
      | ok o =>
        rw [e] at p3
        obtain ⟨c, k, rfl, hc, rfl⟩ := gGetDT_ok (q2.grow g3) e
        have kd2 := kd.mono (g2.trans g3).ff
        have hp3 := (g2.trans g3).hh _ _ hp
        rcases kd2.at k with ⟨h1, h2⟩ | ⟨q, d, w, h1, h2, rw', dq⟩
        · rw [h2] at p3
          exact ⟨c, k, v3, rfl, hp3, kd2.keys g3.cfg.sub, same_seqT g3.cfg.sub hc, fun u ru => by rw [h1]; exact ru, p3 F3 H3 _ ((g1.trans g2).trans g3) dqz⟩
        · rw [h2] at p3
          exact ⟨c, k, w, rfl, hp3, kd2.keys g3.cfg.sub, same_seqT g3.cfg.sub hc, fun u ru => by rw [h1]; exact rw', p3 F3 H3 _ ((g1.trans g2).trans g3) dq⟩
/-! ### reckoning -/
variable (f : VEnv → Out) (env : VEnv) (i : Nat) (x y : PyData) (kvs : List (Key × PyData)) (kts : List (List Int × PyData))
theorem e_aug (g : RV → RV → Rs RV) : sAug i g fa env = match env[i]? with
  | some (some r0) => (fa env).out env fun r => (g r0.bor r).out env fun z => putS i z env
  | _ => .no := rfl
theorem e_decT {h : Decidable True} : @decide True h = true := by simp
theorem e_decF {h : Decidable False} : @decide False h = false := by simp
theorem e_cDispS (x y z w : Str) : cDispS x y z w env = .ok (.od [(.inr x, .str y), (.inr z, .str w)]) := rfl
theorem e_cDT : cDT env = .ok (.ot []) := rfl
theorem e_cDK : cDK env = .ok (.od []) := rfl
theorem e_cDisp1 : cDisp1 fa fb env = (fa env).bind fun x => (fb env).bind fun y => (rsO (x.sd.bind keyTD)).bind fun k => (rsO y.toD).bind fun d => .ok (.ot [(k, d)]) := rfl
theorem e_storeA (fi fe : VEnv → Rs RV) : sStoreA i fi fe env = match env[i]? with
  | some (some r0) => (fe env).out env fun r => (fi env).out env fun ix => (rsO r.toD).out env fun d => (stR r0 ix d).out env fun r1 => .nx (env.set i (some r1))
  | _ => .no := rfl
theorem e_stR1 (xs : List PyData) (k : Int) : stR (.ol xs) (.d (.int k)) x = (rsO (ixN xs.length k)).bind fun j => .ok (.ol (xs.set j x)) := rfl
theorem e_stR2 (r : RV) : stR (.od kvs) r x = (rsO (r.sd.bind keyD)).bind fun k => if kvs.length ≤ 1000000 then .ok (.od (dPut kvs k x)) else .no := rfl
theorem e_stR3 (r : RV) : stR (.ot kts) r x = (rsO (r.sd.bind keyTD)).bind fun k => if kts.length ≤ 1000000 then .ok (.ot (dPut kts k x)) else .no := rfl
theorem e_sd1 : (RV.d x).sd = some x := rfl
theorem e_keyD1 (k : Int) : keyD (.int k) = some (.inl k) := rfl
theorem e_keyD2 (k : Str) : keyD (.str k) = some (.inr k) := rfl
theorem e_keyTD (xs : List PyData) : keyTD (.tuple xs) = intsD xs := rfl
theorem e_intsD (ns : List Int) : intsD (ns.map .int) = some ns := intsD_map ns
theorem e_intsD0 : intsD [] = some [] := rfl
theorem e_borT : (RV.ot kts).bor = .bt kts := rfl
theorem e_borT2 : (RV.bt kts).bor = .bt kts := rfl
theorem e_borK : (RV.od kvs).bor = .bd kvs := rfl
theorem e_borK2 : (RV.bd kvs).bor = .bd kvs := rfl
theorem e_argT : (RV.ot kts).arg = .bt kts := rfl
theorem e_argT2 : (RV.bt kts).arg = .bt kts := rfl
theorem e_argK : (RV.od kvs).arg = .bd kvs := rfl
theorem e_argK2 : (RV.bd kvs).arg = .bd kvs := rfl
theorem e_nbT : (RV.ot kts).nb = .ok (.ot kts) := rfl
theorem e_nbK : (RV.od kvs).nb = .ok (.od kvs) := rfl
theorem e_putT : putS i (.ot kts) env = if i < env.length then .nx (env.set i (some (.ot kts))) else .no := rfl
theorem e_putK : putS i (.od kvs) env = if i < env.length then .nx (env.set i (some (.od kvs))) else .no := rfl
theorem e_gAt1 (b : RV) : gAt (.bt kts) b = gGetDT kts b := rfl
theorem e_gAt2 (b : RV) : gAt (.bd kvs) b = gGetDK kvs b := rfl
theorem e_gAt3 (b : RV) : gAt (.od kvs) b = gGetDK kvs b := rfl
theorem e_gAt4 (b : RV) : gAt (.ot kts) b = gGetDT kts b := rfl
theorem e_gGetDK (b : RV) : gGetDK kvs b = (rsO (b.sd.bind keyD)).bind fun k => .ok (dGet kvs k) := rfl
theorem e_gGetDT (b : RV) : gGetDT kts b = (rsO (b.sd.bind keyTD)).bind fun k => .ok (dGet kts k) := rfl
theorem e_gIxD (a b : RV) : gIxD a b = (gAt a b).bind fun o => (rsO o).bind fun d => .ok (.d d) := rfl
theorem e_gInD (a b : RV) : gInD a b = (gAt b a).bind fun o => okB o.isSome := rfl
theorem e_gNotInD (a b : RV) : gNotInD a b = (gAt b a).bind fun o => okB (!o.isSome) := rfl
theorem e_cGet1 : cGet1 fa fb env = (fa env).bind fun x => match x.dk with
  | some kvs => (fb env).bind fun y => (gGetDK kvs y).bind fun o => .ok (.d (o.getD .none))
  | none => (match x.dt with
    | some kvs => (fb env).bind fun y => (gGetDT kvs y).bind fun o => .ok (.d (o.getD .none))
    | none => .no) := rfl
theorem e_cGet2 : cGet2 fa fb fc env = (fa env).bind fun x => match x.dk with
  | some kvs => (fb env).bind fun y => (fc env).bind fun z => (rsO z.sd).bind fun d => (gGetDK kvs y).bind fun o => .ok (.d (o.getD d))
  | none => (match x.dt with
    | some kvs => (fb env).bind fun y => (fc env).bind fun z => (rsO z.sd).bind fun d => (gGetDT kvs y).bind fun o => .ok (.d (o.getD d))
    | none => .no) := rfl
theorem e_dk1 : (RV.bd kvs).dk = some kvs := rfl
theorem e_dk2 : (RV.od kvs).dk = some kvs := rfl
theorem e_dk3 : (RV.bt kts).dk = none := rfl
theorem e_dk4 : (RV.ot kts).dk = none := rfl
theorem e_dt1 : (RV.bt kts).dt = some kts := rfl
theorem e_dt2 : (RV.ot kts).dt = some kts := rfl
theorem e_del (fi : VEnv → Rs RV) : sDel i fi env = match env[i]? with
  | some (some (.od kvs)) => (fi env).out env fun ix => (rsO (ix.sd.bind keyD)).out env fun k => if (dGet kvs k).isSome = true then .nx (env.set i (some (.od (dDrop kvs k)))) else .no
  | _ => .no := rfl
end
end VL

namespace VL
open PySem PySem.Spec PyProof.Rows L2
/-! ## xs.pop() as a statement; a def that calls itself -/
section
variable {ca : Nat → Addr} {W : WX} {X : Cx} {pos : Pos}
theorem dqa_dropLast {K : PySem.W.Frag} {F : Hp} {vs : List V} {ds : List PyData} (h : DqA K F vs ds) : DqA K F vs.dropLast ds.dropLast := by
  rw [List.dropLast_eq_take, List.dropLast_eq_take, h.length]
  exact h.take _
theorem vs_pop (i : Nat) {x : Str} {p1 p2 p3 : Pos} (hN : X.N[i]? = some x := by rfl) (hv : Vis X.env.scope x := by first | exact Or.inl rfl | exact Or.inr (Or.inl rfl) | exact Or.inr (Or.inr rfl)) (hd : (x == ("__debug__" : Str)) = false := by decide) (hcd : (x == ("__classdict__" : Str)) = false := by decide)
    (hbase : attributeBase (.Name x p1) "pop" X.env (eval (.Name x p1) X.env) = eval (.Name x p1) X.env := by rfl) (hline : (p2.endLine == p3.line) = true := by rfl)
    (hsw : swapsWith (.Call (.Attribute (.Name x p1) "pop" p2) [] [] p3) none pos.line X.env = pure false := by rfl) :
    VS ca W X (.Expr (.Call (.Attribute (.Name x p1) "pop" p2) [] [] p3) pos) (sPop i) := by
  refine ⟨_, ps_expr (pe_bm0 PySem.F.plainAttrs_list PySem.F.slot_list_pop PySem.F.type_list_pop mt_pop (pe_var hN hv hd hcd) hbase hline) hsw, fun B F env σ H D st p => ?_⟩
  show ∃ v, σ[i]? = some (some v) ∧ (tyV X.K "list" v H ∧ rPop v [] H fun _ H2 => D.nx σ H2)
  unfold sPop at p
  split at p
  · rename_i xs e1
    split at p
    · exact p.elim
    · rename_i hne
      obtain ⟨a, vs, s1, n0, f0, hp, q⟩ := st.ownAt e1
      have hl : vs.length = xs.length := q.length
      have hpos : 0 < vs.length := by
        have := List.length_pos_iff.mpr hne
        omega
      refine ⟨.ref a, s1, .inl ⟨rfl, vs, SqL.of hp⟩, a, vs, vs[vs.length - 1], rfl, rfl, hp, List.getElem?_eq_getElem (by omega), ?_⟩
      exact p F σ _ (Same.refl _) (st.write (r1 := .ol xs.dropLast) e1 rfl s1 hp n0 f0 (fun _ z => by cases z) ⟨a, _, rfl, n0, f0, upd_same, dqa_dropLast q⟩ rfl)
  · exact p.elim
theorem e_pop (i : Nat) (env : VEnv) : sPop i env = match env[i]? with
  | some (some (.ol xs)) => if xs = [] then .no else .nx (env.set i (some (.ol xs.dropLast)))
  | _ => .no := rfl
/-- nothing is promised -/
theorem fn_no {P : Program} {w : World} {K : PySem.W.Frag} {mg : Str → Option Value} {base : Heap} {k n : Nat} {fA : Addr} {fd : FuncData} {ps : List Str} (hn : ps.length = n) : FnOk P w K mg base (L2.CX P w) k fA fd ps (spV K ca n fun _ => .no) :=
  ⟨fun vs H Q E h => by rw [h.1, hn], fun A outer s H args us vs Q E _ _ _ _ h => by
    obtain ⟨_, G, rs, _, _, q⟩ := h
    exact q.elim⟩
end
end VL
namespace My
open PySem PySem.Spec PyProof.Rows L2 VL TL
def B__law_cell : VEnv → Out :=
  (sSeq (sIf (cB (c2 gLt (cV 1) (cA gLen (aC (cV 0) aN)))) (sRet (c2 gIx (cV 0) (cV 1))) sNil)
    (sRet (cC (.int 0))))
def F__law_cell : List RV → Rs RV := fnD 2 B__law_cell
def L0__law_draw : VEnv → Out :=
  (sSeq (sApp 4 (c2 gMod (cV 3) (cV 5)))
    (sSet 3 (c2 gDiv (cV 3) (cV 5))))
def L1__law_draw : VEnv → Out :=
  (sSeq (sSet 6 (c2 gMod (c2 gAdd (c2 gAdd (c2 gMul (cV 6) (cC (.int 48271))) (cC (.int 11))) (cV 7)) (cC (.int 2147483647))))
    (sSeq (sSet 6 (c2 gMod (c2 gAdd (c2 gMul (cV 6) (cC (.int 69621))) (cC (.int 3))) (cC (.int 2147483647))))
    (sApp 4 (c2 gMod (c2 gDiv (cV 6) (cC (.int 7))) (c2 gIx (cV 2) (cV 7))))))
def B__law_draw : VEnv → Out :=
  (sSeq (sSet 3 (cA (fun rs => if rs.length = 2 then F__law_cell (rs.map RV.arg) else .no) (aC (cV 0) (aC (cV 1) aN))))
    (sSeq (sIf (cB (c2 gLt (cV 3) (cC (.int 0)))) (sSet 3 (c1 gNeg (cV 3))) sNil)
    (sSeq (sSet 4 (cA gList aN))
    (sSeq (sIf (cB (c2 gGe (cV 3) (c2 gPow (cC (.int 10)) (cC (.int 18))))) (sSeq (sSet 3 (c2 gSub (cV 3) (c2 gPow (cC (.int 10)) (cC (.int 18)))))
    (sSeq (sFor (.nm 5) (iL (cV 2)) L0__law_draw)
    (sRetV 4))) sNil)
    (sSeq (sSet 6 (c2 gMod (c2 gAdd (c2 gAdd (cV 3) (cC (.int 1))) (c2 gMul (cC (.int 31)) (cV 1))) (cC (.int 2147483647))))
    (sSeq (sFor (.nm 7) (iR gR1 (aC (cA gLen (aC (cV 2) aN)) aN)) L1__law_draw)
    (sRetV 4)))))))
def F__law_draw : List RV → Rs RV := fnD 8 B__law_draw
def B__law_operand : VEnv → Out :=
  (sSeq (sIf (cB (c2 gEq (cV 0) (cC (.int 0)))) (sRet (c2 gAdd (cC (.str "x")) (cA gStr (aC (c2 gMod (cV 1) (cV 3)) aN)))) sNil)
    (sSeq (sIf (bOr (cB (c2 gEq (cV 0) (cC (.int 1)))) (cB (c2 gEq (cV 4) (cC (.int 0))))) (sRet (cA gStr (aC (c2 gMod (cV 1) (cV 2)) aN))) sNil)
    (sRet (c2 gAdd (cC (.str "s")) (cA gStr (aC (c2 gSub (c2 gSub (cV 4) (cC (.int 1))) (c2 gMod (cV 1) (cV 4))) aN))))))
def F__law_operand : List RV → Rs RV := fnD 5 B__law_operand
def L0__law_program : VEnv → Out :=
  (sSeq (sSet 8 (cSl (cV 3) (oS (c2 gAdd (cC (.int 3)) (c2 gMul (cC (.int 5)) (cV 7)))) (oS (c2 gAdd (cC (.int 8)) (c2 gMul (cC (.int 5)) (cV 7))))))
    (sSeq (sFz 5 (sFz 4 (sSet 9 (cA (fun rs => if rs.length = 5 then F__law_operand (rs.map RV.arg) else .no) (aC (c2 gIx (cV 8) (cC (.int 1))) (aC (c2 gIx (cV 8) (cC (.int 2))) (aC (cV 4) (aC (cV 5) (aC (cA gLen (aC (cV 6) aN)) aN)))))))))
    (sSeq (sFz 5 (sFz 4 (sSet 10 (cA (fun rs => if rs.length = 5 then F__law_operand (rs.map RV.arg) else .no) (aC (c2 gIx (cV 8) (cC (.int 3))) (aC (c2 gIx (cV 8) (cC (.int 4))) (aC (cV 4) (aC (cV 5) (aC (cA gLen (aC (cV 6) aN)) aN)))))))))
    (sFz 10 (sFz 9 (sIf (cB (c2 gNotIn (cA gTupl (aC (c2 gIx (cC (.str "+-*")) (c2 gIx (cV 8) (cC (.int 0)))) (aC (cV 9) (aC (cV 10) aN)))) (cV 6))) (sFz 10 (sFz 9 (sApp 6 (cA gTupl (aC (c2 gIx (cC (.str "+-*")) (c2 gIx (cV 8) (cC (.int 0)))) (aC (cV 9) (aC (cV 10) aN))))))) sNil))))))
def B__law_program : VEnv → Out :=
  (sSeq (sSet 3 (cA (fun rs => if rs.length = 3 then F__law_draw (rs.map RV.arg) else .no) (aC (cV 0) (aC (cV 1) (aC (c2 gAdd (c2 gAdd (cA gList (aC (cC (.int 12)) (aC (cC (.int 2)) (aC (cV 2) aN)))) (c2 gRep (cA gList (aC (cC (.int 3)) (aC (cC (.int 4)) (aC (cC (.int 13)) (aC (cC (.int 4)) (aC (cC (.int 13)) aN)))))) (cC (.int 7)))) (c2 gRep (cA gList (aC (cC (.int 3)) aN)) (cC (.int 8)))) aN)))))
    (sSeq (sSet 4 (c2 gAdd (cC (.int 2)) (c2 gIx (cV 3) (cC (.int 0)))))
    (sSeq (sSet 5 (c2 gAdd (cC (.int 1)) (c2 gIx (cV 3) (cC (.int 1)))))
    (sSeq (sSet 6 (cA gList aN))
    (sSeq (sFor (.nm 7) (iR gR1 (aC (c2 gAdd (cC (.int 1)) (c2 gIx (cV 3) (cC (.int 2)))) aN)) L0__law_program)
    (sSeq (sSet 11 (cLc (iR gR1 (aC (cA gLen (aC (cV 6) aN)) aN)) [7] (.nm 7) (cB (c2 gEq (c2 gIx (cV 3) (c2 gAdd (cC (.int 38)) (cV 7))) (cC (.int 0)))) (cV 7)))
    (sSeq (sIf (cB (c2 gNotIn (c2 gSub (cA gLen (aC (cV 6) aN)) (cC (.int 1))) (cV 11))) (sApp 11 (c2 gSub (cA gLen (aC (cV 6) aN)) (cC (.int 1)))) sNil)
    (sFz 5 (sFz 4 (sRet (cA gTupl (aC (cV 4) (aC (cV 5) (aC (cA gTupleC (aC (cV 6) aN)) (aC (cA gTupleC (aC (cV 11) aN)) aN)))))))))))))))
def F__law_program : List RV → Rs RV := fnD 12 B__law_program
def L0__law_random : VEnv → Out :=
  (sSeq (sSet 11 (c2 gAdd (cC (.str "r")) (cA gStr (aC (c2 gMod (c2 gAdd (c2 gAdd (c2 gIx (cV 7) (cC (.int 0))) (cC (.int 1))) (c2 gMod (cV 10) (cC (.int 7)))) (cC (.int 8))) aN))))
    (sSeq (sIf (cB (c2 gEq (cV 9) (cC (.int 0)))) (sSet 11 (c2 gAdd (cC (.str "x")) (cA gStr (aC (c2 gMod (cV 10) (c2 gIx (cV 2) (cC (.int 1)))) aN)))) sNil)
    (sSeq (sIf (cB (c2 gEq (cV 9) (cC (.int 1)))) (sSet 11 (cA gStr (aC (c2 gMod (cV 10) (c2 gIx (cV 2) (cC (.int 0)))) aN))) sNil)
    (sFz 11 (sApp 8 (cV 11))))))
def L1__law_random : VEnv → Out :=
  (sSeq (sSet 7 (cSl (cV 5) (oS (c2 gAdd (cC (.int 1)) (c2 gMul (cC (.int 7)) (cV 6)))) (oS (c2 gAdd (cC (.int 8)) (c2 gMul (cC (.int 7)) (cV 6))))))
    (sSeq (sSet 8 (cA gList aN))
    (sSeq (sFor (.tp [9, 10]) (iL (cA gList (aC (cA gTupl (aC (c2 gIx (cV 7) (cC (.int 3))) (aC (c2 gIx (cV 7) (cC (.int 4))) aN))) (aC (cA gTupl (aC (c2 gIx (cV 7) (cC (.int 5))) (aC (c2 gIx (cV 7) (cC (.int 6))) aN))) aN)))) L0__law_random)
    (sApp 4 (cA gTupl (aC (c2 gIx (cV 7) (cC (.int 0))) (aC (c2 gIx (cC (.str "+-")) (c2 gIx (cV 7) (cC (.int 1)))) (aC (c2 gIx (cC (.str "+-*")) (c2 gIx (cV 7) (cC (.int 2)))) (aC (c2 gIx (cV 8) (cC (.int 0))) (aC (c2 gIx (cV 8) (cC (.int 1))) aN))))))))))
def B__law_random : VEnv → Out :=
  (sSeq (sSet 4 (cA gList aN))
    (sSeq (sSet 5 (cA (fun rs => if rs.length = 3 then F__law_draw (rs.map RV.arg) else .no) (aC (cV 0) (aC (cV 1) (aC (c2 gAdd (cA gList (aC (cV 3) aN)) (c2 gRep (cA gList (aC (cC (.int 8)) (aC (cC (.int 2)) (aC (cC (.int 3)) (aC (cC (.int 3)) (aC (cC (.int 13)) (aC (cC (.int 3)) (aC (cC (.int 13)) aN)))))))) (cV 3))) aN)))))
    (sSeq (sFor (.nm 6) (iR gR1 (aC (c2 gIx (cV 5) (cC (.int 0))) aN)) L1__law_random)
    (sRetV 4))))
def F__law_random : List RV → Rs RV := fnD 12 B__law_random
def B_opposite : VEnv → Out :=
  (sSeq (sUnp (.tp [1, 2, 3, 4, 5]) (cV 0))
    (sRet (cA gTupl (aC (cV 1) (aC (vIf (cB (c2 gEq (cV 2) (cC (.str "+")))) (cC (.str "-")) (cC (.str "+"))) (aC (cV 3) (aC (cV 4) (aC (cV 5) aN))))))))
def F_opposite : List RV → Rs RV := fnD 6 B_opposite
def L0_cancelled : VEnv → Out :=
  (sIf (bAnd (cB (c2 gGt (cA gLen (aC (cV 1) aN)) (cC (.int 0)))) (cB (c2 gEq (c2 gIx (cV 1) (c1 gNeg (cC (.int 1)))) (cA (fun rs => if rs.length = 1 then F_opposite (rs.map RV.arg) else .no) (aC (cV 2) aN))))) (sPop 1) (sApp 1 (cV 2)))
def B_cancelled : VEnv → Out :=
  (sSeq (sSet 1 (cA gList aN))
    (sSeq (sFor (.nm 2) (iA (cV 0)) L0_cancelled)
    (sRetV 1)))
def F_cancelled : List RV → Rs RV := fnD 3 B_cancelled
def B__law_inputs : VEnv → Out :=
  (sSeq (sSet 3 (cA (fun rs => if rs.length = 3 then F__law_draw (rs.map RV.arg) else .no) (aC (cV 0) (aC (cV 1) (aC (c2 gRep (cA gList (aC (c2 gIx (cV 2) (cC (.int 0))) aN)) (c2 gIx (cV 2) (cC (.int 1)))) aN)))))
    (sRet (cA gListC (aC (cV 3) aN))))
def F__law_inputs : List RV → Rs RV := fnD 4 B__law_inputs
def B_result_of : VEnv → Out :=
  (sSeq (sIf (cB (c2 gEq (cV 0) (cC (.str "+")))) (sRet (c2 gAdd (cV 1) (cV 2))) sNil)
    (sSeq (sIf (cB (c2 gEq (cV 0) (cC (.str "-")))) (sRet (c2 gSub (cV 1) (cV 2))) sNil)
    (sRet (c2 gMul (cV 1) (cV 2)))))
def F_result_of : List RV → Rs RV := fnD 3 B_result_of
def B_source_value : VEnv → Out :=
  (sSeq (sIf (cB (c2 gEq (c2 gIx (cV 0) (cC (.int 0))) (cC (.str "x")))) (sRet (c2 gIx (cV 1) (cA gInt (aC (cSl (cV 0) (oS (cC (.int 1))) oN) aN)))) sNil)
    (sSeq (sIf (cB (c2 gEq (c2 gIx (cV 0) (cC (.int 0))) (cC (.str "r")))) (sRet (c2 gIx (cV 2) (cA gInt (aC (cSl (cV 0) (oS (cC (.int 1))) oN) aN)))) sNil)
    (sRet (cA gInt (aC (cV 0) aN)))))
def F_source_value : List RV → Rs RV := fnD 3 B_source_value
def B_performed : VEnv → Out :=
  (sSeq (sUnp (.tp [4, 5, 6, 7, 8]) (cV 1))
    (sSeq (sSet 9 (cA (fun rs => if rs.length = 3 then F_result_of (rs.map RV.arg) else .no) (aC (cV 6) (aC (cA (fun rs => if rs.length = 3 then F_source_value (rs.map RV.arg) else .no) (aC (cV 7) (aC (cV 2) (aC (cV 3) aN)))) (aC (cA (fun rs => if rs.length = 3 then F_source_value (rs.map RV.arg) else .no) (aC (cV 8) (aC (cV 2) (aC (cV 3) aN)))) aN)))))
    (sSeq (sSet 10 (cA gListC (aC (cV 3) aN)))
    (sSeq (sIf (cB (c2 gEq (cV 5) (cC (.str "+")))) (sStore 10 (cV 4) (c2 gMod (c2 gAdd (c2 gIx (cV 10) (cV 4)) (cV 9)) (c2 gIx (cV 0) (cC (.int 0))))) (sStore 10 (cV 4) (c2 gMod (c2 gSub (c2 gIx (cV 10) (cV 4)) (cV 9)) (c2 gIx (cV 0) (cC (.int 0))))))
    (sRetV 10)))))
def F_performed : List RV → Rs RV := fnD 11 B_performed
def L0_run : VEnv → Out :=
  (sFz 4 (sSet 4 (cA (fun rs => if rs.length = 4 then F_performed (rs.map RV.arg) else .no) (aC (cV 0) (aC (cV 5) (aC (cV 2) (aC (cV 4) aN)))))))
def B_run : VEnv → Out :=
  (sSeq (sSet 4 (cA gListC (aC (cV 3) aN)))
    (sSeq (sFor (.nm 5) (iA (cV 1)) L0_run)
    (sRetV 4)))
def F_run : List RV → Rs RV := fnD 6 B_run
def B__law_result : VEnv → Out :=
  (sSeq (sIf (cB (c2 gEq (cV 0) (cC (.str "+")))) (sRet (c2 gMod (c2 gAdd (cV 1) (cV 2)) (cV 3))) sNil)
    (sSeq (sIf (cB (c2 gEq (cV 0) (cC (.str "-")))) (sRet (c2 gMod (c2 gSub (cV 1) (cV 2)) (cV 3))) sNil)
    (sRet (c2 gMod (c2 gMul (cV 1) (cV 2)) (cV 3)))))
def F__law_result : List RV → Rs RV := fnD 4 B__law_result
def B__law_value : VEnv → Out :=
  (sSeq (sIf (cB (c2 gEq (c2 gIx (cV 0) (cC (.int 0))) (cC (.str "x")))) (sRet (c2 gIx (cV 1) (cA gInt (aC (cSl (cV 0) (oS (cC (.int 1))) oN) aN)))) sNil)
    (sSeq (sIf (bOr (cB (c2 gEq (c2 gIx (cV 0) (cC (.int 0))) (cC (.str "s")))) (cB (c2 gEq (c2 gIx (cV 0) (cC (.int 0))) (cC (.str "r"))))) (sRet (c2 gIx (cV 2) (cA gInt (aC (cSl (cV 0) (oS (cC (.int 1))) oN) aN)))) sNil)
    (sRet (cA gInt (aC (cV 0) aN)))))
def F__law_value : List RV → Rs RV := fnD 3 B__law_value
def L0__law_after : VEnv → Out :=
  (sSeq (sSet 10 (cA (fun rs => if rs.length = 4 then F__law_result (rs.map RV.arg) else .no) (aC (cV 7) (aC (cA (fun rs => if rs.length = 3 then F__law_value (rs.map RV.arg) else .no) (aC (cV 8) (aC (cV 2) (aC (cV 4) aN)))) (aC (cA (fun rs => if rs.length = 3 then F__law_value (rs.map RV.arg) else .no) (aC (cV 9) (aC (cV 2) (aC (cV 4) aN)))) (aC (c2 gIx (cV 0) (cC (.int 0))) aN))))))
    (sSeq (sIf (cB (c2 gEq (cV 6) (cC (.str "-")))) (sSet 10 (c1 gNeg (cV 10))) sNil)
    (sStore 4 (cV 5) (c2 gMod (c2 gAdd (c2 gIx (cV 4) (cV 5)) (cV 10)) (c2 gIx (cV 0) (cC (.int 0)))))))
def B__law_after : VEnv → Out :=
  (sSeq (sSet 4 (cA gListC (aC (cV 3) aN)))
    (sSeq (sFor (.tp [5, 6, 7, 8, 9]) (iA (cV 1)) L0__law_after)
    (sRetV 4)))
def F__law_after : List RV → Rs RV := fnD 11 B__law_after
def B__law_other : VEnv → Out :=
  (sRet (cA gTupl (aC (c2 gIx (cV 0) (cC (.int 0))) (aC (c2 gIxD (cDispS "+" "-" "-" "+") (c2 gIx (cV 0) (cC (.int 1)))) (aC (c2 gIx (cV 0) (cC (.int 2))) (aC (c2 gIx (cV 0) (cC (.int 3))) (aC (c2 gIx (cV 0) (cC (.int 4))) aN)))))))
def F__law_other : List RV → Rs RV := fnD 1 B__law_other
def L0__law_due (S : List RV → Rs RV) : VEnv → Out :=
  (sIf (cB (c2 gEq (c2 gIx (cV 0) (cV 1)) (cA (fun rs => if rs.length = 1 then F__law_other (rs.map RV.arg) else .no) (aC (c2 gIx (cV 0) (c2 gSub (cV 1) (cC (.int 1)))) aN)))) (sRet (cA (fun rs => if rs.length = 1 then S (rs.map RV.arg) else .no) (aC (c2 gAdd (cSl (cV 0) oN (oS (c2 gSub (cV 1) (cC (.int 1))))) (cSl (cV 0) (oS (c2 gAdd (cV 1) (cC (.int 1)))) oN)) aN))) sNil)
def B__law_due (S : List RV → Rs RV) : VEnv → Out :=
  (sSeq (sFor (.nm 1) (iR gR2 (aC (cC (.int 1)) (aC (cA gLen (aC (cV 0) aN)) aN))) (L0__law_due S))
    (sRetV 0))
def FN__law_due : Nat → List RV → Rs RV
  | 0 => fun _ => .no
  | n + 1 => fnD 2 (B__law_due (FN__law_due n))
def F__law_due : List RV → Rs RV := FN__law_due 9
def L0_law : VEnv → Out :=
  (sSeq (sSet 8 (c2 gMod (c2 gIx (cV 5) (cV 7)) (c2 gAdd (cA gLen (aC (cV 4) aN)) (cC (.int 1)))))
    (sSet 4 (c2 gAdd (c2 gAdd (cSl (cV 4) oN (oS (cV 8))) (cA gList (aC (c2 gIx (cV 6) (cV 7)) (aC (cA (fun rs => if rs.length = 1 then F__law_other (rs.map RV.arg) else .no) (aC (c2 gIx (cV 6) (cV 7)) aN)) aN)))) (cSl (cV 4) (oS (cV 8)) oN))))
def L1_law : VEnv → Out :=
  (sSeq (sSet 2 (cA (fun rs => if rs.length = 3 then F__law_program (rs.map RV.arg) else .no) (aC (cV 0) (aC (c2 gMul (cC (.int 6)) (cV 1)) (aC (cC (.int 3)) aN)))))
    (sSeq (sFz 2 (sSet 3 (cA (fun rs => if rs.length = 4 then F__law_random (rs.map RV.arg) else .no) (aC (cV 0) (aC (c2 gAdd (c2 gMul (cC (.int 6)) (cV 1)) (cC (.int 1))) (aC (cV 2) (aC (cC (.int 6)) aN)))))))
    (sSeq (sSet 4 (cA gListC (aC (cV 3) aN)))
    (sSeq (sSet 5 (cA (fun rs => if rs.length = 3 then F__law_draw (rs.map RV.arg) else .no) (aC (cV 0) (aC (c2 gAdd (c2 gMul (cC (.int 6)) (cV 1)) (cC (.int 2))) (aC (c2 gRep (cA gList (aC (cC (.int 20)) aN)) (cC (.int 6))) aN)))))
    (sSeq (sFz 2 (sSet 6 (cA (fun rs => if rs.length = 4 then F__law_random (rs.map RV.arg) else .no) (aC (cV 0) (aC (c2 gAdd (c2 gMul (cC (.int 6)) (cV 1)) (cC (.int 3))) (aC (cV 2) (aC (cC (.int 4)) aN)))))))
    (sSeq (sFor (.nm 7) (iR gR1 (aC (cA gLen (aC (cV 6) aN)) aN)) L0_law)
    (sSeq (sFz 4 (sSet 9 (cA (fun rs => if rs.length = 1 then F_cancelled (rs.map RV.arg) else .no) (aC (cV 4) aN))))
    (sSeq (sFz 9 (sFz 3 (sFz 4 (sIf (bOr (cB (c2 gNe (cV 9) (cA (fun rs => if rs.length = 1 then F__law_due (rs.map RV.arg) else .no) (aC (cV 4) aN)))) (bOr (cB (c2 gNe (cV 9) (cA (fun rs => if rs.length = 1 then F_cancelled (rs.map RV.arg) else .no) (aC (cV 3) aN)))) (cB (c2 gNe (cA (fun rs => if rs.length = 1 then F_cancelled (rs.map RV.arg) else .no) (aC (cV 9) aN)) (cV 9))))) (sRet (cC (.bool false))) sNil))))
    (sSeq (sSet 10 (cA (fun rs => if rs.length = 3 then F__law_draw (rs.map RV.arg) else .no) (aC (cV 0) (aC (c2 gAdd (c2 gMul (cC (.int 6)) (cV 1)) (cC (.int 4))) (aC (c2 gRep (cA gList (aC (c2 gIx (cV 2) (cC (.int 0))) aN)) (cC (.int 8))) aN)))))
    (sSeq (sFz 2 (sSet 11 (cA (fun rs => if rs.length = 3 then F__law_inputs (rs.map RV.arg) else .no) (aC (cV 0) (aC (c2 gAdd (c2 gMul (cC (.int 6)) (cV 1)) (cC (.int 5))) (aC (cV 2) aN))))))
    (sFz 3 (sFz 10 (sFz 11 (sFz 9 (sFz 2 (sIf (cB (c2 gNe (cA (fun rs => if rs.length = 4 then F_run (rs.map RV.arg) else .no) (aC (cV 2) (aC (cV 9) (aC (cV 11) (aC (cV 10) aN))))) (cA (fun rs => if rs.length = 4 then F__law_after (rs.map RV.arg) else .no) (aC (cV 2) (aC (cV 3) (aC (cV 11) (aC (cV 10) aN))))))) (sRet (cC (.bool false))) sNil))))))))))))))))
def B_law : VEnv → Out :=
  (sSeq (sFor (.nm 1) (iR gR1 (aC (cA gMin2 (aC (cC (.int 10)) (aC (cA gMax2 (aC (cC (.int 1)) (aC (c2 gDiv (cA gLen (aC (cV 0) aN)) (cC (.int 6))) aN))) aN))) aN)) L1_law)
    (sRet (cC (.bool true))))
def F_law : List RV → Rs RV := fnD 12 B_law
/-! ### cells and draws -/
def cell (ns : List Int) (k : Nat) : Int := ns.getD k 0
theorem cell_ok (ns : List Int) (k : Nat) : F__law_cell [.sc ns, .d (.int k)] = .ok (.d (.int (cell ns k))) := by
  unfold F__law_cell fnD B__law_cell
  simp [e_V]
  by_cases h : k < ns.length
  · simp [h, atI_lt, cell]
  · simp [h, cell]
/-- what the digits of a draw satisfy -/
structure Drawn (sizes ds : List Int) : Prop where
  len : ds.length = sizes.length
  lo : ∀ i (h : i < ds.length), 0 ≤ ds[i]
  hi : ∀ i (h : i < ds.length) (h' : i < sizes.length), ds[i] < sizes[i]
theorem Drawn.snoc {sizes ds : List Int} {s d : Int} (h : Drawn sizes ds) (h0 : 0 ≤ d) (h1 : d < s) : Drawn (sizes ++ [s]) (ds ++ [d]) := by
  refine ⟨by simp [h.len], fun i hi => ?_, fun i hi hi' => ?_⟩
  · by_cases c : i < ds.length
    · rw [List.getElem_append_left c]; exact h.lo i c
    · rw [List.getElem_append_right (by omega)]; simpa using h0
  · by_cases c : i < ds.length
    · rw [List.getElem_append_left c, List.getElem_append_left (by rw [← h.len]; exact c)]; exact h.hi i c _
    · rw [List.getElem_append_right (by omega), List.getElem_append_right (by rw [← h.len]; omega)]; simpa using h1
def Sizes (sizes : List Int) : Prop := ∀ s ∈ sizes, 0 < s ∧ s < 1073741824
/-- the loop of the first way -/
theorem draw_far (sizes : List Int) (hs : Sizes sizes) (a b : RV) (k : PyData) : ∀ (xs pre ds : List Int) (c : Int) (j5 j6 j7 : Option RV), pre ++ xs = sizes → Drawn pre ds → sizes.length ≤ 1000 → 0 ≤ c →
    ∃ (ds' : List Int) (c' : Int) (j5' : Option RV), loopF (.nm 5) (sSeq (sApp 4 (c2 gMod (cV 3) (cV 5))) (sSet 3 (c2 gDiv (cV 3) (cV 5)))) (xs.map .int) [some a, some b, some (.d k), some (.d (.int c)), some (.ol (ds.map .int)), j5, j6, j7] = .nx [some a, some b, some (.d k), some (.d (.int c')), some (.ol (ds'.map .int)), j5', j6, j7] ∧ Drawn sizes ds'
  | [], pre, ds, c, j5, j6, j7, e, h, hl, h0 => ⟨ds, c, j5, rfl, by rw [← e, List.append_nil]; exact h⟩
  | x :: xs, pre, ds, c, j5, j6, j7, e, h, hl, h0 => by
    have hx0 : 0 < x ∧ x < 1073741824 := hs x (by rw [← e]; simp)
    have hx : 0 < x ∧ x.natAbs < 1073741824 := by omega
    have hlen : ds.length ≤ 1000000 := by
      have : pre.length ≤ sizes.length := by (rw [← e]; simp)
      rw [h.len]; omega
    obtain ⟨ds', c', j5', e1, d1⟩ := draw_far sizes hs a b k xs (pre ++ [x]) (ds ++ [c % x]) (c / x) (some (.d (.int x))) j6 j7 (by rw [← e]; simp) (h.snoc (Int.emod_nonneg c (by omega)) (Int.emod_lt_of_pos c hx.1)) hl (Int.ediv_nonneg h0 (by omega))
    refine ⟨ds', c', j5', ?_, d1⟩
    rw [List.map_cons, loopF_cons]
    simp [e_app, e_V, hx, hlen]
    simpa using e1
/-- the loop of the second way -/
theorem draw_near (sizes : List Int) (hs : Sizes sizes) (a b : RV) (j3 j5 : Option RV) : ∀ (n i : Nat) (ds : List Int) (m : Int) (j7 : Option RV), i + n = sizes.length → Drawn (sizes.take i) ds → sizes.length ≤ 1000 → 0 ≤ m → m < 2147483647 →
    ∃ (ds' : List Int) (m' : Int) (j7' : Option RV), loopF (.nm 7) (sSeq (sSet 6 (c2 gMod (c2 gAdd (c2 gAdd (c2 gMul (cV 6) (cC (.int 48271))) (cC (.int 11))) (cV 7)) (cC (.int 2147483647))))
    (sSeq (sSet 6 (c2 gMod (c2 gAdd (c2 gMul (cV 6) (cC (.int 69621))) (cC (.int 3))) (cC (.int 2147483647))))
    (sApp 4 (c2 gMod (c2 gDiv (cV 6) (cC (.int 7))) (c2 gIx (cV 2) (cV 7)))))) ((List.range' i n).map fun k : Nat => .int (k : Int)) [some a, some b, some (.d (.list (sizes.map .int))), j3, some (.ol (ds.map .int)), j5, some (.d (.int m)), j7] = .nx [some a, some b, some (.d (.list (sizes.map .int))), j3, some (.ol (ds'.map .int)), j5, some (.d (.int m')), j7'] ∧ Drawn sizes ds'
  | 0, i, ds, m, j7, e, h, hl, h0, h1 => ⟨ds, m, j7, rfl, by rw [Nat.add_zero] at e; rw [e, List.take_length] at h; exact h⟩
  | n + 1, i, ds, m, j7, e, h, hl, h0, h1 => by
    have hi : i < sizes.length := by omega
    have hx : 0 < sizes[i] ∧ sizes[i] < 1073741824 := hs _ (List.getElem_mem hi)
    have hlen : ds.length ≤ 1000000 := by rw [h.len, List.length_take]; omega
    have q1 : 0 ≤ ((m * 48271 + 11 + (i : Int)) % 2147483647 * 69621 + 3) % 2147483647 := Int.emod_nonneg _ (by decide)
    have q2 : ((m * 48271 + 11 + (i : Int)) % 2147483647 * 69621 + 3) % 2147483647 < 2147483647 := Int.emod_lt_of_pos _ (by decide)
    have q3 : 0 ≤ (m * 48271 + 11 + (i : Int)) % 2147483647 := Int.emod_nonneg _ (by decide)
    have q4 : (m * 48271 + 11 + (i : Int)) % 2147483647 < 2147483647 := Int.emod_lt_of_pos _ (by decide)
    have et : sizes.take (i + 1) = sizes.take i ++ [sizes[i]] := by rw [List.take_add_one, List.getElem?_eq_getElem hi]; rfl
    obtain ⟨ds', m', j7', e1, d1⟩ := draw_near sizes hs a b j3 j5 n (i + 1) (ds ++ [((m * 48271 + 11 + (i : Int)) % 2147483647 * 69621 + 3) % 2147483647 / 7 % sizes[i]]) (((m * 48271 + 11 + (i : Int)) % 2147483647 * 69621 + 3) % 2147483647) (some (.d (.int i))) (by omega)
      (by rw [et]; exact h.snoc (Int.emod_nonneg _ (by omega)) (Int.emod_lt_of_pos _ hx.1)) hl q1 q2
    refine ⟨ds', m', j7', ?_, d1⟩
    rw [List.range'_succ, List.map_cons, loopF_cons]
    have b1 : m.natAbs < 18446744073709551616 := by omega
    have b2 : ((m * 48271 + 11 + (i : Int)) % 2147483647).natAbs < 18446744073709551616 := by omega
    have ea : atI (sizes.map PyData.int) (i : Int) = some (.int sizes[i]) := by rw [atI_lt (by omega) (by simpa using hi)]; simp [hi]
    simp [e_app, e_V, hlen, ea, hx, b1, b2]
    simpa using e1
/-- what follows the cell -/
def drawTail : VEnv → Out := (sSeq (sSet 4 (cA gList aN))
    (sSeq (sIf (cB (c2 gGe (cV 3) (c2 gPow (cC (.int 10)) (cC (.int 18))))) (sSeq (sSet 3 (c2 gSub (cV 3) (c2 gPow (cC (.int 10)) (cC (.int 18)))))
    (sSeq (sFor (.nm 5) (iL (cV 2)) (sSeq (sApp 4 (c2 gMod (cV 3) (cV 5)))
    (sSet 3 (c2 gDiv (cV 3) (cV 5)))))
    (sRetV 4))) sNil)
    (sSeq (sSet 6 (c2 gMod (c2 gAdd (c2 gAdd (cV 3) (cC (.int 1))) (c2 gMul (cC (.int 31)) (cV 1))) (cC (.int 2147483647))))
    (sSeq (sFor (.nm 7) (iR gR1 (aC (cA gLen (aC (cV 2) aN)) aN)) (sSeq (sSet 6 (c2 gMod (c2 gAdd (c2 gAdd (c2 gMul (cV 6) (cC (.int 48271))) (cC (.int 11))) (cV 7)) (cC (.int 2147483647))))
    (sSeq (sSet 6 (c2 gMod (c2 gAdd (c2 gMul (cV 6) (cC (.int 69621))) (cC (.int 3))) (cC (.int 2147483647))))
    (sApp 4 (c2 gMod (c2 gDiv (cV 6) (cC (.int 7))) (c2 gIx (cV 2) (cV 7)))))))
    (sRetV 4)))))
theorem draw_far' (ns : List Int) (k : Nat) (sizes : List Int) (hs : Sizes sizes) (hl : sizes.length ≤ 1000) (c : Int) (hf : 1000000000000000000 ≤ c) :
    ∃ ds : List Int, drawTail [some (.sc ns), some (.d (.int k)), some (.d (.list (sizes.map .int))), some (.d (.int c)), none, none, none, none] = .rt (.ol (ds.map .int)) ∧ Drawn sizes ds := by
  obtain ⟨ds', c', j5', e1, d1⟩ := draw_far sizes hs (.sc ns) (.d (.int k)) (.list (sizes.map .int)) sizes [] [] (c - 1000000000000000000) none none none (by simp) ⟨rfl, fun i h => by simp at h, fun i h => by simp at h⟩ hl (by omega)
  refine ⟨ds', ?_, d1⟩
  simp at e1
  unfold drawTail
  simp [e_V, hf, e1, e_retV]
theorem mix_ok (ns : List Int) (k : Nat) (sizes : List Int) (c : Int) : sSet 6 (c2 gMod (c2 gAdd (c2 gAdd (cV 3) (cC (.int 1))) (c2 gMul (cC (.int 31)) (cV 1))) (cC (.int 2147483647))) [some (.sc ns), some (.d (.int k)), some (.d (.list (sizes.map .int))), some (.d (.int c)), some (.ol []), none, none, none]
      = .nx [some (.sc ns), some (.d (.int k)), some (.d (.list (sizes.map .int))), some (.d (.int c)), some (.ol []), none, some (.d (.int ((c + 1 + 31 * (k : Int)) % 2147483647))), none] := by
  simp only [e_set, e_c2, e_V, List.getElem?_cons_zero, List.getElem?_cons_succ, Rs.bind_ok, e_bor1, e_cC, e_addI]
  rw [e_mul, if_pos (Or.inl (by decide))]
  simp only [Rs.bind_ok, e_addI]
  rw [e_mod, if_pos (by decide)]
  simp only [Rs.out_ok, e_putd]
  rw [if_pos (by show 6 < 8; decide)]
  rfl
theorem draw_near' (ns : List Int) (k : Nat) (sizes : List Int) (hs : Sizes sizes) (hl : sizes.length ≤ 1000) (c : Int) (hf : ¬ 1000000000000000000 ≤ c) :
    ∃ ds : List Int, drawTail [some (.sc ns), some (.d (.int k)), some (.d (.list (sizes.map .int))), some (.d (.int c)), none, none, none, none] = .rt (.ol (ds.map .int)) ∧ Drawn sizes ds := by
  obtain ⟨m, hm⟩ : ∃ m, m = (c + 1 + 31 * (k : Int)) % 2147483647 := ⟨_, rfl⟩
  have m0 : 0 ≤ m := by rw [hm]; exact Int.emod_nonneg _ (by decide)
  have m1 : m < 2147483647 := by rw [hm]; exact Int.emod_lt_of_pos _ (by decide)
  have hset := mix_ok ns k sizes c
  rw [← hm] at hset
  clear hm
  obtain ⟨ds', m', j7', e1, d1⟩ := draw_near sizes hs (.sc ns) (.d (.int k)) (some (.d (.int c))) none sizes.length 0 [] m none (by omega) ⟨rfl, fun i h => by simp at h, fun i h => by simp at h⟩ hl m0 m1
  refine ⟨ds', ?_, d1⟩
  rw [← List.range_eq_range', ← rngL_eq] at e1
  have hr : iR gR1 (aC (cA gLen (aC (cV 2) aN)) aN) [some (.sc ns), some (.d (.int k)), some (.d (.list (sizes.map .int))), some (.d (.int c)), some (.ol []), none, some (.d (.int m)), none] = .ok (rngL 0 sizes.length) := by
    have b1 : (sizes.map PyData.int).length ≤ 1000000 := by rw [List.length_map]; omega
    have := e_R1n b1
    rw [List.length_map] at this
    simp only [e_iR, e_aC, e_cA, e_aN, e_V, List.getElem?_cons_succ, List.getElem?_cons_zero, Rs.bind_ok, e_bor1, e_lenL, List.length_map]
    exact this
  have hc : cB (c2 gGe (cV 3) (c2 gPow (cC (.int 10)) (cC (.int 18)))) [some (.sc ns), some (.d (.int k)), some (.d (.list (sizes.map .int))), some (.d (.int c)), some (.ol []), none, none, none] = .ok false := by
    simp [e_V, hf]
  have h4 : sSet 4 (cA gList aN) [some (.sc ns), some (.d (.int k)), some (.d (.list (sizes.map .int))), some (.d (.int c)), none, none, none, none] = .nx [some (.sc ns), some (.d (.int k)), some (.d (.list (sizes.map .int))), some (.d (.int c)), some (.ol []), none, none, none] := by simp
  unfold drawTail
  rw [e_seq, h4, Out.then_nx, e_seq, e_if, hc]
  simp only [Rs.out_ok, Bool.false_eq_true, if_false, e_nil, Out.then_nx]
  rw [e_seq, hset, Out.then_nx, e_seq, e_for, hr]
  simp only [Rs.out_ok]
  rw [show ([] : List PyData) = ([] : List Int).map .int from rfl, e1]
  simp [e_retV]
theorem draw_ok (ns : List Int) (k : Nat) (sizes : List Int) (hs : Sizes sizes) (hl : sizes.length ≤ 1000) : ∃ ds : List Int, F__law_draw [.sc ns, .d (.int k), .d (.list (sizes.map .int))] = .ok (.ol (ds.map .int)) ∧ Drawn sizes ds := by
  have eb : B__law_draw = sSeq (sSet 3 (cA (fun rs => if rs.length = 2 then F__law_cell (rs.map RV.arg) else .no) (aC (cV 0) (aC (cV 1) aN))))
    (sSeq (sIf (cB (c2 gLt (cV 3) (cC (.int 0)))) (sSet 3 (c1 gNeg (cV 3))) sNil) drawTail) := rfl
  unfold F__law_draw fnD
  rw [eb]
  have hc := cell_ok ns k
  generalize cell ns k = c at hc
  have step : ∀ c : Int, ∃ ds : List Int, drawTail [some (.sc ns), some (.d (.int k)), some (.d (.list (sizes.map .int))), some (.d (.int c)), none, none, none, none] = .rt (.ol (ds.map .int)) ∧ Drawn sizes ds := fun c => by
    by_cases hf : (1000000000000000000 : Int) ≤ c
    · exact draw_far' ns k sizes hs hl c hf
    · exact draw_near' ns k sizes hs hl c hf
  simp [e_V, hc]
  by_cases hn : c < 0
  · obtain ⟨ds, e1, d1⟩ := step (-c)
    refine ⟨ds, ?_, d1⟩
    simp [hn, e_V, e1]
  · obtain ⟨ds, e1, d1⟩ := step c
    refine ⟨ds, ?_, d1⟩
    simp [hn, e_V, e1]
/-! ### texts: a letter and a number -/
def numS (n : Nat) : Str := Str.ofString (toString (n : Int))
def lx (c : Str) (n : Nat) : Str := c ++ numS n
theorem num_l (n : Nat) : (numS n).cps.toList = numL n := tl_num n
theorem num_len {n : Nat} (h : n < 100000) : (numS n).length ≤ 5 := by
  have e : (numS n).length = (numL n).length := by rw [← num_l n]; rfl
  rw [e]
  exact numL_len (by decide) (by simpa using h)
theorem log_ok (n : Nat) (h : n < 100000) : ((n : Int)).natAbs.log2 < 1920 := by
  have h1 : ((n : Int)).natAbs = n := rfl
  rw [h1]
  by_cases h0 : n = 0
  · subst h0; decide
  · exact (Nat.log2_lt h0).mpr (Nat.lt_of_lt_of_le h (by decide))
theorem str_ok {n : Nat} (h : n < 100000) : gStr [.d (.int n)] = .ok (.d (.str (numS n))) := if_pos (log_ok n h)
theorem int_ok {n : Nat} (h : n < 100000) : gInt [.d (.str (numS n))] = .ok (.d (.int n)) := by
  have e : PySem.intText? (numS n) = some (n : Int) := int_num (Nat.le_trans (numL_len (k := 5) (by decide) (by simpa using h)) (by decide))
  show (rsO (PySem.intText? (numS n))).bind _ = _
  rw [e]
  have := num_len h
  simp only [rsO_some, Rs.bind_ok]
  rw [if_pos (by omega)]
  rfl
theorem app_l (a b : Str) : (a ++ b).cps.toList = a.cps.toList ++ b.cps.toList := by
  show (a.cps ++ b.cps).toList = _
  simp
theorem str_ext {a b : Str} (h : a.cps.toList = b.cps.toList) : a = b := by
  cases a; cases b
  congr 1
  exact Array.toList_inj.mp h
/-- the letters -/
structure Letter (c : Str) (k : Nat) : Prop where
  l : c.cps.toList = [k]
theorem let_x : Letter "x" 120 := ⟨by decide +kernel⟩
theorem let_r : Letter "r" 114 := ⟨by decide +kernel⟩
theorem let_s : Letter "s" 115 := ⟨by decide +kernel⟩
theorem Letter.eq {c : Str} {k : Nat} (h : Letter c k) : c = ⟨#[k]⟩ := str_ext h.l
theorem Letter.len {c : Str} {k : Nat} (h : Letter c k) : c.length = 1 := by
  have : c.length = c.cps.toList.length := by show c.cps.size = _; simp
  rw [this, h.l]; rfl
theorem lx_l {c : Str} {k : Nat} (h : Letter c k) (n : Nat) : (lx c n).cps.toList = k :: numL n := by
  unfold lx
  rw [app_l, h.l, num_l]; rfl
theorem lx_len {c : Str} {k : Nat} (h : Letter c k) {n : Nat} (hn : n < 100000) : (lx c n).length ≤ 6 := by
  have e : (lx c n).length = (lx c n).cps.toList.length := by show (lx c n).cps.size = _; simp
  have := numL_len (n := n) (k := 5) (by decide) (by simpa using hn)
  rw [e, lx_l h]
  simp
  exact this
theorem lx_head {c : Str} {k : Nat} (h : Letter c k) {n : Nat} (hn : n < 100000) : gIx (.d (.str (lx c n))) (.d (.int 0)) = .ok (.d (.str c)) := by
  have := lx_len h hn
  rw [e_ixS, if_pos (by omega), lx_l h, atI_zero]
  rw [h.eq]; rfl
theorem num_head {n : Nat} (hn : n < 100000) : ∃ d, 48 ≤ d ∧ d ≤ 57 ∧ gIx (.d (.str (numS n))) (.d (.int 0)) = .ok (.d (.str ⟨#[d]⟩)) := by
  have h1 := num_len hn
  have h2 := numL_digits n
  have h3 := numL_ne n
  rw [e_ixS, if_pos (by omega), num_l]
  cases e : numL n with
  | nil => exact absurd e h3
  | cons d ds =>
    have := h2 d (by rw [e]; exact List.mem_cons_self)
    exact ⟨d, by omega, by omega, by rw [atI_zero]; rfl⟩
theorem one_ne {a b : Nat} (h : a ≠ b) : (⟨#[a]⟩ : Str) ≠ ⟨#[b]⟩ := fun e => h (by injection e with e; simpa using e)
theorem lx_tail {c : Str} {k : Nat} (h : Letter c k) {n : Nat} (hn : n < 100000) : gSl (.d (.str (lx c n))) (some 1) none = .ok (.d (.str (numS n))) := by
  have hl := lx_len h hn
  have e : (lx c n).length = (numL n).length + 1 := by
    have : (lx c n).length = (lx c n).cps.toList.length := by show (lx c n).cps.size = _; simp
    rw [this, lx_l h]; rfl
  show (if (lx c n).length ≤ 1000000 then Rs.ok (RV.d (.str (cutS (lx c n) (some 1) none))) else .no) = _
  rw [if_pos (by omega)]
  congr 3
  apply str_ext
  unfold cutS
  have e1 : HT.sIx (lx c n).length 0 (some 1) = 1 := by
    rw [show (1 : Int) = ((1 : Nat) : Int) from rfl, HT.sIx_nat]; omega
  rw [e1, HT.sIx_none, e, lx_l h, num_l]
  simp
@[simp] theorem eqv_str (a b : Str) : PyData.eqv (.str a) (.str b) = decide (a = b) := by
  rw [PyData.eqv]
  by_cases h : a = b <;> simp [h]
/-! ### shapes at any depth -/
structure Nice (k : Nat) (d : PyData) : Prop where
  lay : d.canLay0 = true
  dep : d.depth ≤ k
theorem nice_all {k : Nat} : ∀ {ds : List PyData}, (∀ d ∈ ds, Nice k d) → PyData.canLayAll0 ds = true ∧ PyData.depthAll ds ≤ k
  | [], _ => ⟨rfl, Nat.zero_le _⟩
  | d :: ds, h => by
    obtain ⟨h1, h2⟩ := nice_all fun x hx => h x (List.mem_cons_of_mem _ hx)
    have h3 := h d List.mem_cons_self
    refine ⟨?_, ?_⟩
    · show (PyData.canLay0 d && PyData.canLayAll0 ds) = true
      rw [h3.lay, h1]; rfl
    · show max d.depth (PyData.depthAll ds) ≤ k
      have := h3.dep
      omega
theorem Nice.tup {k : Nat} {ds : List PyData} (h : ∀ d ∈ ds, Nice k d) : Nice (k + 1) (.tuple ds) := ⟨(nice_all h).1, Nat.succ_le_succ (nice_all h).2⟩
theorem Nice.lst {k : Nat} {ds : List PyData} (h : ∀ d ∈ ds, Nice k d) : Nice (k + 1) (.list ds) := ⟨(nice_all h).1, Nat.succ_le_succ (nice_all h).2⟩
theorem Nice.int (k : Nat) (i : Int) : Nice k (.int i) := ⟨rfl, Nat.zero_le _⟩
theorem Nice.bool (k : Nat) (i : Bool) : Nice k (.bool i) := ⟨rfl, Nat.zero_le _⟩
theorem Nice.none (k : Nat) : Nice k .none := ⟨rfl, Nat.zero_le _⟩
theorem Nice.str (k : Nat) {s : Str} (h : PyData.strOk s = true) : Nice k (.str s) := ⟨h, Nat.zero_le _⟩
theorem Nice.shaped {k : Nat} {d : PyData} (h : Nice k d) (hk : k ≤ 64) : SeqAt.shaped d = true := by
  unfold SeqAt.shaped
  rw [h.lay, decide_eq_true (Nat.le_trans h.dep hk)]
  rfl
theorem Nice.refl {k : Nat} {d : PyData} (h : Nice k d) : PyData.eqv d d = true := SeqAt.eqv_refl d h.lay
theorem ok_of {s : Str} (h : ∀ c ∈ s.cps.toList, c < 200) : PyData.strOk s = true := by
  unfold PyData.strOk
  rw [Array.all_eq_true']
  intro c hc
  have := h c (by simpa using hc)
  simp
  omega
theorem num_strOk (n : Nat) : PyData.strOk (numS n) = true := ok_of fun c hc => by
  rw [num_l] at hc
  have := numL_digits n c hc
  omega
theorem lx_strOk {c : Str} {k : Nat} (h : Letter c k) (hk : k < 200) (n : Nat) : PyData.strOk (lx c n) = true := ok_of fun d hd => by
  rw [lx_l h] at hd
  rcases List.mem_cons.mp hd with rfl | hd
  · exact hk
  · have := numL_digits n d hd
    omega
/-! ### drawn tasks -/
theorem loopF_ex {β : Type} {tg : Tg} {f : VEnv → Out} (R : Nat → VEnv → Prop) (emb : β → PyData) (xs : List β) (env : VEnv)
    (h : ∀ i env x, xs[i]? = some x → R i env → ∃ e1, tgE tg (emb x) env = some e1 ∧ ∃ env', (f e1 = .nx env' ∨ f e1 = .ct env') ∧ R (i + 1) env') (h0 : R 0 env) : ∃ env', loopF tg f (xs.map emb) env = .nx env' ∧ R xs.length env' := by
  obtain ⟨env', e, r⟩ := loopF_rel (α := Unit) (fun i _ env => R i env) emb (fun _ _ => ()) xs () env (fun i _ env x hx r => h i env x hx r) h0
  exact ⟨env', e, r⟩
def natI (k : Nat) : PyData := .int (k : Int)
theorem rng_nat (n : Nat) : rngL 0 n = (List.range n).map natI := rngL_eq n
/-- ascending, from 0 to below b -/
structure Asc (b : Int) (xs : List Int) : Prop where
  up : xs.Pairwise (· < ·)
  lo : ∀ x ∈ xs, 0 ≤ x
  hi : ∀ x ∈ xs, x < b
theorem Asc.nil (b : Int) : Asc b [] := ⟨.nil, by simp, by simp⟩
theorem Asc.snoc {b x : Int} {xs : List Int} (h : Asc x xs) (h0 : 0 ≤ x) (h1 : x < b) : Asc b (xs ++ [x]) :=
  ⟨List.pairwise_append.mpr ⟨h.up, List.pairwise_singleton _ _, fun y hy z hz => by rw [List.mem_singleton.mp hz]; exact h.hi y hy⟩,
    fun y hy => by rcases List.mem_append.mp hy with z | z; exact h.lo y z; rw [List.mem_singleton.mp z]; exact h0,
    fun y hy => by rcases List.mem_append.mp hy with z | z; (have := h.hi y z; omega); rw [List.mem_singleton.mp z]; exact h1⟩
theorem Asc.mono {b c : Int} {xs : List Int} (h : Asc b xs) (e : b ≤ c) : Asc c xs := ⟨h.up, h.lo, fun x hx => Int.lt_of_lt_of_le (h.hi x hx) e⟩
theorem Asc.len {b : Nat} : ∀ {xs : List Int}, Asc b xs → xs.length ≤ b := by
  induction b with
  | zero => intro xs h; cases xs with
    | nil => simp
    | cons x xs => have := h.lo x List.mem_cons_self; have := h.hi x List.mem_cons_self; omega
  | succ b ih =>
    intro xs h
    rcases List.eq_nil_or_concat xs with rfl | ⟨ys, y, rfl⟩
    · simp
    · rw [List.concat_eq_append] at h ⊢
      have hu := List.pairwise_append.mp h.up
      have : Asc (b : Int) ys := ⟨hu.1, fun z hz => h.lo z (List.mem_append_left _ hz), fun z hz => by
        have h1 := hu.2.2 z hz y (List.mem_singleton.mpr rfl)
        have h2 := h.hi y (List.mem_append_right _ (List.mem_singleton.mpr rfl))
        omega⟩
      have := ih this
      simp
      omega
/-- a task: each step uses ascending earlier steps; ascending targets, at least one -/
structure WF (most : Nat) (us : List (List Int)) (ts : List Int) : Prop where
  one : 1 ≤ us.length
  len : us.length ≤ most
  use : ∀ (k : Nat) (u : List Int), us[k]? = some u → Asc k u
  tgt : Asc us.length ts
  some : ts ≠ []
theorem drawn_at {sizes ds : List Int} (h : Drawn sizes ds) {i : Nat} {s : Int} (hi : sizes[i]? = some s) : ∃ d, ds[i]? = some d ∧ 0 ≤ d ∧ d < s := by
  obtain ⟨h1, h2⟩ := List.getElem?_eq_some_iff.mp hi
  have h3 : i < ds.length := by rw [h.len]; exact h1
  exact ⟨ds[i], List.getElem?_eq_getElem h3, h.lo i h3, by rw [← h2]; exact h.hi i h3 h1⟩
theorem atI_ints {ds : List Int} {i : Nat} {d : Int} (h : ds[i]? = some d) : atI (ds.map PyData.int) (i : Int) = some (.int d) := by
  rw [atI_lt (by omega) (by simpa using (List.getElem?_eq_some_iff.mp h).1)]
  simp [h]
theorem range_at {n i x : Nat} (h : (List.range n)[i]? = some x) : x = i ∧ i < n := by
  have hi : i < n := by simpa using (List.getElem?_eq_some_iff.mp h).1
  rw [List.getElem?_range hi] at h
  exact ⟨(Option.some.inj h).symm, hi⟩
/-! ### draws as naturals -/
theorem draw_nat (ns : List Int) (k : Nat) (sz : List Nat) (hs : ∀ s ∈ sz, 0 < s ∧ s < 1000000) (hl : sz.length ≤ 1000) : ∃ nd : List Nat, F__law_draw [.sc ns, .d (.int k), .d (.list (sz.map natI))] = .ok (.ol (nd.map natI)) ∧ nd.length = sz.length ∧ ∀ (i s : Nat), sz[i]? = some s → ∃ d, nd[i]? = some d ∧ d < s := by
  obtain ⟨ds, e, dr⟩ := draw_ok ns k (sz.map fun n : Nat => (n : Int)) (by
    intro s hs'
    obtain ⟨n, hn, rfl⟩ := List.mem_map.mp hs'
    have := hs n hn
    omega) (by simpa using hl)
  have el : ds.length = sz.length := by have := dr.len; simpa using this
  have eds : ds = (ds.map Int.toNat).map fun n : Nat => (n : Int) := by
    rw [List.map_map]
    refine (List.map_id _).symm.trans (List.map_congr_left fun x hx => ?_)
    obtain ⟨i, hi, rfl⟩ := List.getElem_of_mem hx
    have := dr.lo i hi
    show ds[i] = ((ds[i].toNat : Nat) : Int)
    omega
  have m1 : (sz.map fun n : Nat => (n : Int)).map PyData.int = sz.map natI := by rw [List.map_map]; rfl
  have m2 : ds.map PyData.int = (ds.map Int.toNat).map natI := by
    conv => lhs; rw [eds]
    rw [List.map_map]; rfl
  rw [m1, m2] at e
  refine ⟨ds.map Int.toNat, e, by simpa using el, fun i s hi => ?_⟩
  obtain ⟨d, q1, q2, q3⟩ := drawn_at dr (i := i) (s := (s : Int)) (by rw [List.getElem?_map, hi]; rfl)
  exact ⟨d.toNat, by rw [List.getElem?_map, q1]; rfl, by omega⟩
theorem atI_nats {ds : List Nat} {i d : Nat} (h : ds[i]? = some d) : atI (ds.map natI) (i : Int) = some (natI d) := by
  rw [atI_lt (by omega) (by simpa using (List.getElem?_eq_some_iff.mp h).1)]
  simp [h]
theorem e_modN (a n : Nat) (h : 0 < n) : gMod (.d (.int a)) (.d (.int n)) = .ok (.d (.int ((a % n : Nat) : Int))) := by
  rw [e_mod, if_pos (by omega)]
  rfl
/-! ### sources -/
inductive Src where
  | x (i : Nat) | r (i : Nat) | c (n : Nat)
def Src.str : Src → Str
  | .x i => lx "x" i
  | .r i => lx "r" i
  | .c n => numS n
/-- what a source may be, with so many inputs -/
def Src.ok (n : Nat) : Src → Prop
  | .x i => i < n ∧ i < 100000
  | .r i => i < 8
  | .c k => k < 100000
def Src.val (ins regs : List Int) : Src → Int
  | .x i => ins.getD i 0
  | .r i => regs.getD i 0
  | .c n => n
theorem Src.strOk (s : Src) : PyData.strOk s.str = true := by
  cases s with
  | x i => exact lx_strOk let_x (by decide) i
  | r i => exact lx_strOk let_r (by decide) i
  | c n => exact num_strOk n
/-- a list of ints that is read -/
def Ls (a : RV) (xs : List Int) : Prop := a = .d (.list (xs.map .int)) ∨ a = .bl (xs.map .int)
theorem Ls.ix {a : RV} {xs : List Int} (h : Ls a xs) {i : Nat} (hi : i < xs.length) : gIx a.bor (.d (.int i)) = .ok (.d (.int (xs.getD i 0))) := by
  have e : atI (xs.map PyData.int) (i : Int) = some (.int (xs.getD i 0)) := by
    rw [atI_ints (d := xs.getD i 0)]
    simp [hi]
  rcases h with rfl | rfl <;> simp [e]
theorem decNe {a b : Str} (h : a ≠ b) : decide (a = b) = false := decide_eq_false h
theorem x_ne_r : (("x" : Str) = "r") = False := by simp; decide +kernel
theorem r_ne_x : (("r" : Str) = "x") = False := by simp; decide +kernel
theorem sh_str {s : Str} (h : PyData.strOk s = true) : SeqAt.shaped (.str s) = true := (Nice.str 0 h).shaped (by decide)
theorem digit_ne {d k : Nat} {c : Str} (h : Letter c k) (h1 : d ≤ 57) (h2 : 57 < k) : ((⟨#[d]⟩ : Str) = c) = False := by
  rw [h.eq]; simp; omega
theorem digit_ok {d : Nat} (h1 : d ≤ 57) : PyData.strOk ⟨#[d]⟩ = true := ok_of fun c hc => by simp at hc; omega
theorem letx_ok : PyData.strOk "x" = true := by decide +kernel
theorem letr_ok : PyData.strOk "r" = true := by decide +kernel
theorem lets_ok : PyData.strOk "s" = true := by decide +kernel
/-- the head's comparison -/
theorem head_x (i : Nat) (h : i < 100000) (c : Str) (hc : PyData.strOk c = true) : (gIx (.d (.str (lx "x" i))) (.d (.int 0))).bind (fun a => gEq a (.d (.str c))) = .ok (.d (.bool (decide (("x" : Str) = c)))) := by
  rw [lx_head let_x h]
  simp [sh_str letx_ok, sh_str hc]
theorem head_r (i : Nat) (h : i < 100000) (c : Str) (hc : PyData.strOk c = true) : (gIx (.d (.str (lx "r" i))) (.d (.int 0))).bind (fun a => gEq a (.d (.str c))) = .ok (.d (.bool (decide (("r" : Str) = c)))) := by
  rw [lx_head let_r h]
  simp [sh_str letr_ok, sh_str hc]
theorem head_c (n : Nat) (h : n < 100000) {c : Str} {k : Nat} (hl : Letter c k) (hk : 57 < k) (hc : PyData.strOk c = true) : (gIx (.d (.str (numS n))) (.d (.int 0))).bind (fun a => gEq a (.d (.str c))) = .ok (.d (.bool false)) := by
  obtain ⟨d, h1, h2, e⟩ := num_head h
  rw [e]
  simp [sh_str (digit_ok h2), sh_str hc, digit_ne hl h2 hk]
/-! ### instructions -/
inductive Op where
  | add | sub | mul
def Op.str : Op → Str
  | .add => "+"
  | .sub => "-"
  | .mul => "*"
def Op.ap (a b : Int) : Op → Int
  | .add => a + b
  | .sub => a - b
  | .mul => a * b
theorem op_ok (o : Op) : PyData.strOk o.str = true := by cases o <;> decide +kernel
theorem sgn_ok (b : Bool) : PyData.strOk (if b then "-" else "+") = true := by cases b <;> decide +kernel
theorem plus_ok : PyData.strOk "+" = true := by decide +kernel
theorem minus_ok : PyData.strOk "-" = true := by decide +kernel
theorem sub_ne_add : (("-" : Str) = "+") = False := by simp; decide +kernel
theorem add_ne_sub : (("+" : Str) = "-") = False := by simp; decide +kernel
theorem mul_ne_add : (("*" : Str) = "+") = False := by simp; decide +kernel
theorem mul_ne_sub : (("*" : Str) = "-") = False := by simp; decide +kernel
theorem star_ok : PyData.strOk "*" = true := by decide +kernel
structure Ins where
  reg : Nat
  neg : Bool
  op : Op
  l : Src
  r : Src
def Ins.sgn (i : Ins) : Str := if i.neg then "-" else "+"
def Ins.d (i : Ins) : PyData := .tuple [.int i.reg, .str i.sgn, .str i.op.str, .str i.l.str, .str i.r.str]
structure Ins.ok (n : Nat) (i : Ins) : Prop where
  reg : i.reg < 8
  l : i.l.ok n
  r : i.r.ok n
/-- what an instruction does -/
def Ins.do (m : Int) (ins regs : List Int) (i : Ins) : List Int :=
  let v := i.op.ap (i.l.val ins regs) (i.r.val ins regs)
  regs.set i.reg ((if i.neg then regs.getD i.reg 0 - v else regs.getD i.reg 0 + v) % m)
/-- contents below the modulus -/
structure Regs (m : Int) (xs : List Int) : Prop where
  all : ∀ x ∈ xs, 0 ≤ x ∧ x < m
theorem Regs.at {m : Int} {xs : List Int} (h : Regs m xs) (i : Nat) (hm : 0 < m) : 0 ≤ xs.getD i 0 ∧ xs.getD i 0 < m := by
  by_cases hi : i < xs.length
  · have : xs.getD i 0 = xs[i] := by simp [hi]
    rw [this]; exact h.all _ (List.getElem_mem hi)
  · have : xs.getD i 0 = 0 := by simp [hi]
    omega
theorem Src.bound {m : Int} {ins regs : List Int} (hm : 0 < m) (h1 : Regs m ins) (h2 : Regs m regs) {n : Nat} {s : Src} (ho : s.ok n) : (s.val ins regs).natAbs < 100000 + m.natAbs := by
  cases s with
  | x i => have := h1.at i hm; show (ins.getD i 0).natAbs < _; omega
  | r i => have := h2.at i hm; show (regs.getD i 0).natAbs < _; omega
  | c k => have : k < 100000 := ho; show ((k : Int)).natAbs < _; omega
theorem Ls.arg {a : RV} {xs : List Int} (h : Ls a xs) : a.bor.arg = a := by rcases h with rfl | rfl <;> rfl
theorem Ls.list {a : RV} {xs : List Int} (h : Ls a xs) : gListC [a.bor] = .ok (.ol (xs.map .int)) := by rcases h with rfl | rfl <;> rfl
def progD (m n : Int) (st out : PyData) : PyData := .tuple [.int m, .int n, st, out]
theorem ixN_nat {n i : Nat} (h : i < n) : ixN n (i : Int) = some i := by
  unfold ixN
  rw [if_pos (by omega), if_pos (by omega)]
  rfl
theorem map_set_int (xs : List Int) (i : Nat) (v : Int) : (xs.map PyData.int).set i (.int v) = (xs.set i v).map .int := by rw [List.map_set]
theorem src_val (s : Src) {n : Nat} (ho : s.ok n) {a b : RV} {ins regs : List Int} (ha : Ls a ins) (hb : Ls b regs) (hi : ins.length = n) (hr : regs.length = 8) : F_source_value [.d (.str s.str), a, b] = .ok (.d (.int (s.val ins regs))) := by
  show (sSeq _ _ [some (.d (.str s.str)), some a, some b]).fin = _
  cases s with
  | x i =>
    obtain ⟨h1, h2⟩ := ho
    have e1 := head_x i h2 "x" letx_ok
    have e2 := ha.ix (i := i) (by omega)
    have e3 := lx_tail let_x h2
    have e4 := int_ok h2
    simp only [e_seq, e_if, e_cB, e_c2, e_V, List.getElem?_cons_zero, List.getElem?_cons_succ, Rs.bind_ok, e_bor1, e_cC, Src.str, e1, decide_true, e_asB, Rs.out_ok, if_true, e_ret, e_cA, e_aC, e_aN, e_sl, oS, e_oN, e3, e4, e2]
    rfl
  | r i =>
    have h2 : i < 100000 := by have : i < 8 := ho; omega
    have e1 := head_r i h2 "x" letx_ok
    have e1' := head_r i h2 "r" letr_ok
    have e2 := hb.ix (i := i) (by have : i < 8 := ho; omega)
    have e3 := lx_tail let_r h2
    have e4 := int_ok h2
    simp only [e_seq, e_if, e_cB, e_c2, e_V, List.getElem?_cons_zero, List.getElem?_cons_succ, Rs.bind_ok, e_bor1, e_cC, Src.str, e1, e1', decide_true, e_asB, Rs.out_ok, if_true, e_ret, e_cA, e_aC, e_aN, e_sl, oS, e_oN, e3, e4, e2, r_ne_x, decide_false, Bool.false_eq_true, if_false, e_nil, Out.then_nx]
    rfl
  | c k =>
    have h2 : k < 100000 := ho
    have e1 := head_c k h2 let_x (by decide) letx_ok
    have e1' := head_c k h2 let_r (by decide) letr_ok
    have e4 := int_ok h2
    simp only [e_seq, e_if, e_cB, e_c2, e_V, List.getElem?_cons_zero, List.getElem?_cons_succ, Rs.bind_ok, e_bor1, e_cC, Src.str, e1, e1', e_asB, Rs.out_ok, e_ret, e_cA, e_aC, e_aN, e4, Bool.false_eq_true, if_false, e_nil, Out.then_nx]
    rfl
theorem result_of_ok (o : Op) (a b : Int) (ha : a.natAbs < 18446744073709551616) : F_result_of [.d (.str o.str), .d (.int a), .d (.int b)] = .ok (.d (.int (o.ap a b))) := by
  show (sSeq _ _ [some (.d (.str o.str)), some (.d (.int a)), some (.d (.int b))]).fin = _
  cases o <;> simp [Op.str, Op.ap, e_V, sh_str plus_ok, sh_str minus_ok, sh_str star_ok, sub_ne_add, mul_ne_add, mul_ne_sub, ha]
theorem performed_ok {m n : Int} {st out : PyData} (hm : 0 < m) (hm2 : m ≤ 1000) (i : Ins) {k : Nat} (ho : i.ok k) {a b : RV} {ins regs : List Int} (ha : Ls a ins) (hb : Ls b regs) (hi : ins.length = k) (hr : regs.length = 8) (h1 : Regs m ins) (h2 : Regs m regs) :
    F_performed [.d (progD m n st out), .d i.d, a, b] = .ok (.ol ((i.do m ins regs).map .int)) := by
  have e1 := src_val i.l ho.l ha hb hi hr
  have e2 := src_val i.r ho.r ha hb hi hr
  have e3 := result_of_ok i.op (i.l.val ins regs) (i.r.val ins regs) (by have := Src.bound hm h1 h2 ho.l; omega)
  have hx : gIx (.bl (regs.map .int)) (.d (.int i.reg)) = .ok (.d (.int (regs.getD i.reg 0))) := Ls.ix (.inr rfl) (by have := ho.reg; omega)
  have hn : ixN (regs.map PyData.int).length (i.reg : Int) = some i.reg := ixN_nat (by have := ho.reg; simp; omega)
  show (sSeq _ _ [some (.d (progD m n st out)), some (.d i.d), some a, some b, none, none, none, none, none, none, none]).fin = _
  have s0 : sUnp (.tp [4, 5, 6, 7, 8]) (cV 1) [some (.d (progD m n st out)), some (.d i.d), some a, some b, none, none, none, none, none, none, none] = .nx [some (.d (progD m n st out)), some (.d i.d), some a, some b, some (.d (.int i.reg)), some (.d (.str i.sgn)), some (.d (.str i.op.str)), some (.d (.str i.l.str)), some (.d (.str i.r.str)), none, none] := by
    simp [e_unp, e_V, Ins.d]
  rw [e_seq, s0, Out.then_nx]
  simp only [e_seq, e_set, e_cA, e_aC, e_aN, e_V, List.getElem?_cons_zero, List.getElem?_cons_succ, Rs.bind_ok, e_bor1, List.length_cons, List.length_nil, Nat.reduceAdd, if_true, List.map_cons, List.map_nil, e_arg1, ha.arg, hb.arg, e1, e2, e3, Rs.out_ok, e_putd, Nat.reduceLT, List.set_cons_succ, List.set_cons_zero, Out.then_nx, hb.list, e_puto]
  have hp : gIx (.d (progD m n st out)) (.d (.int 0)) = .ok (.d (.int m)) := rfl
  have hdo : regs.set i.reg ((if i.neg then regs.getD i.reg 0 - i.op.ap (i.l.val ins regs) (i.r.val ins regs) else regs.getD i.reg 0 + i.op.ap (i.l.val ins regs) (i.r.val ins regs)) % m) = i.do m ins regs := rfl
  generalize i.op.ap (i.l.val ins regs) (i.r.val ins regs) = v at hdo ⊢
  generalize regs.getD i.reg 0 = c at hx hdo ⊢
  cases hg : i.neg with
  | false =>
    rw [hg, if_neg Bool.false_ne_true] at hdo
    have hs : i.sgn = "+" := by simp [Ins.sgn, hg]
    simp only [e_if, e_cB, e_c2, e_V, List.getElem?_cons_zero, List.getElem?_cons_succ, Rs.bind_ok, e_bor1, e_bor2, e_cC, hs, e_eq, e_data1, rsO_some, sh_str plus_ok, and_self, if_true, eqv_str, decide_true, e_okB, e_asB, Rs.out_ok, e_store, hx, e_addI, hp, e_mod, hm, e_toD1, hn, Out.then_nx, e_retV, e_nb2, fin_rt, List.set_cons_succ, List.set_cons_zero, map_set_int, hdo]
  | true =>
    rw [hg, if_pos rfl] at hdo
    have hs : i.sgn = "-" := by simp [Ins.sgn, hg]
    simp only [e_if, e_cB, e_c2, e_V, List.getElem?_cons_zero, List.getElem?_cons_succ, Rs.bind_ok, e_bor1, e_bor2, e_cC, hs, e_eq, e_data1, rsO_some, sh_str plus_ok, sh_str minus_ok, and_self, if_true, eqv_str, sub_ne_add, decide_false, Bool.false_eq_true, if_false, e_okB, e_asB, Rs.out_ok, e_store, hx, e_sub, hp, e_mod, hm, e_toD1, hn, Out.then_nx, e_retV, e_nb2, fin_rt, List.set_cons_succ, List.set_cons_zero, map_set_int, hdo]
theorem Ins.do_len (m : Int) (ins regs : List Int) (i : Ins) : (i.do m ins regs).length = regs.length := by simp [Ins.do]
theorem Ins.do_regs {m : Int} (hm : 0 < m) {ins regs : List Int} (h : Regs m regs) (i : Ins) : Regs m (i.do m ins regs) := ⟨fun x hx => by
  rcases List.mem_or_eq_of_mem_set hx with z | rfl
  · exact h.all x z
  · exact ⟨Int.emod_nonneg _ (by omega), Int.emod_lt_of_pos _ hm⟩⟩
/-- code run -/
def runM (m : Int) (ins : List Int) (code : List Ins) (regs : List Int) : List Int := code.foldl (fun rs i => i.do m ins rs) regs
theorem Ls.gA {a : RV} {xs : List Int} (h : Ls a xs) : True := trivial
theorem run_ok {m n : Int} {st out : PyData} (hm : 0 < m) (hm2 : m ≤ 1000) {k : Nat} (code : List Ins) (hc : ∀ i ∈ code, i.ok k) {a b : RV} {ins regs : List Int} (ha : Ls a ins) (hb : Ls b regs) (hi : ins.length = k) (hr : regs.length = 8) (h1 : Regs m ins) (h2 : Regs m regs) :
    F_run [.d (progD m n st out), .d (.list (code.map Ins.d)), a, b] = .ok (.ol ((runM m ins code regs).map .int)) := by
  obtain ⟨env', e1, j5, rfl, _, _⟩ := loopF_rel (tg := .nm 5) (f := L0_run) (fun _ (rs : List Int) env => ∃ j5, env = [some (.d (progD m n st out)), some (.d (.list (code.map Ins.d))), some a, some b, some (.ol (rs.map .int)), j5] ∧ rs.length = 8 ∧ Regs m rs) Ins.d (fun rs i => i.do m ins rs) code regs
    [some (.d (progD m n st out)), some (.d (.list (code.map Ins.d))), some a, some b, some (.ol (regs.map .int)), none] (by
      rintro j rs env i hx ⟨j5, rfl, hl, hR⟩
      have hp := performed_ok (n := n) (st := st) (out := out) hm hm2 i (hc i (List.mem_of_getElem? hx)) ha (b := .d (.list (rs.map .int))) (.inl rfl) hi hl h1 hR
      refine ⟨_, rfl, [some (.d (progD m n st out)), some (.d (.list (code.map Ins.d))), some a, some b, some (.ol ((i.do m ins rs).map .int)), some (.d i.d)], .inl ?_, _, rfl, by rw [Ins.do_len]; exact hl, Ins.do_regs hm hR i⟩
      show (sFz _ _ [some (.d (progD m n st out)), some (.d (.list (code.map Ins.d))), some a, some b, some (.ol (rs.map .int)), some (.d i.d)]) = _
      rw [e_fz]
      have hf : fzE 4 [some (.d (progD m n st out)), some (.d (.list (code.map Ins.d))), some a, some b, some (.ol (rs.map .int)), some (.d i.d)] = [some (.d (progD m n st out)), some (.d (.list (code.map Ins.d))), some a, some b, some (.d (.list (rs.map .int))), some (.d i.d)] := rfl
      rw [hf]
      simp only [e_set, e_cA, e_aC, e_aN, e_V, List.getElem?_cons_zero, List.getElem?_cons_succ, Rs.bind_ok, e_bor1, List.length_cons, List.length_nil, Nat.reduceAdd, if_true, List.map_cons, List.map_nil, e_arg1, ha.arg, hp, Rs.out_ok, e_puto, Nat.reduceLT, List.set_cons_succ, List.set_cons_zero]) ⟨none, rfl, hr, h2⟩
  show (sSeq _ _ [some (.d (progD m n st out)), some (.d (.list (code.map Ins.d))), some a, some b, none, none]).fin = _
  have s0 : sSet 4 (cA gListC (aC (cV 3) aN)) [some (.d (progD m n st out)), some (.d (.list (code.map Ins.d))), some a, some b, none, none] = .nx [some (.d (progD m n st out)), some (.d (.list (code.map Ins.d))), some a, some b, some (.ol (regs.map .int)), none] := by
    simp only [e_set, e_cA, e_aC, e_aN, e_V, List.getElem?_cons_zero, List.getElem?_cons_succ, Rs.bind_ok, hb.list, Rs.out_ok, e_puto, List.length_cons, List.length_nil, Nat.reduceAdd, Nat.reduceLT, if_true, List.set_cons_succ, List.set_cons_zero]
  rw [e_seq, s0, Out.then_nx, e_seq, e_for]
  simp only [e_iA, e_V, List.getElem?_cons_zero, List.getElem?_cons_succ, Rs.bind_ok, e_bor1, e_gAq2, Rs.out_ok, e1, Out.then_nx, e_retV, e_nb2, fin_rt]
  rfl
/-! ### the law's own way -/
theorem s_ne_x : (("s" : Str) = "x") = False := by simp; decide +kernel
theorem r_ne_s : (("r" : Str) = "s") = False := by simp; decide +kernel
theorem law_value_ok (s : Src) {n : Nat} (ho : s.ok n) {a b : RV} {ins regs : List Int} (ha : Ls a ins) (hb : Ls b regs) (hi : ins.length = n) (hr : regs.length = 8) : F__law_value [.d (.str s.str), a, b] = .ok (.d (.int (s.val ins regs))) := by
  show (sSeq _ _ [some (.d (.str s.str)), some a, some b]).fin = _
  cases s with
  | x i =>
    obtain ⟨h1, h2⟩ := ho
    have e1 := head_x i h2 "x" letx_ok
    have e2 := ha.ix (i := i) (by omega)
    have e3 := lx_tail let_x h2
    have e4 := int_ok h2
    simp only [e_seq, e_if, e_cB, e_c2, e_V, List.getElem?_cons_zero, List.getElem?_cons_succ, Rs.bind_ok, e_bor1, e_cC, Src.str, e1, decide_true, e_asB, Rs.out_ok, if_true, e_ret, e_cA, e_aC, e_aN, e_sl, oS, e_oN, e3, e4, e2]
    rfl
  | r i =>
    have h2 : i < 100000 := by have : i < 8 := ho; omega
    have e1 := head_r i h2 "x" letx_ok
    have e1' := head_r i h2 "r" letr_ok
    have e1'' := head_r i h2 "s" lets_ok
    have e2 := hb.ix (i := i) (by have : i < 8 := ho; omega)
    have e3 := lx_tail let_r h2
    have e4 := int_ok h2
    simp only [e_seq, e_if, e_bOr, e_cB, e_c2, e_V, List.getElem?_cons_zero, List.getElem?_cons_succ, Rs.bind_ok, e_bor1, e_cC, Src.str, e1, e1', e1'', decide_true, e_asB, Rs.out_ok, if_true, e_ret, e_cA, e_aC, e_aN, e_sl, oS, e_oN, e3, e4, e2, r_ne_x, r_ne_s, decide_false, Bool.false_eq_true, if_false, e_nil, Out.then_nx]
    rfl
  | c k =>
    have h2 : k < 100000 := ho
    have e1 := head_c k h2 let_x (by decide) letx_ok
    have e1' := head_c k h2 let_r (by decide) letr_ok
    have e1'' := head_c k h2 let_s (by decide) lets_ok
    have e4 := int_ok h2
    simp only [e_seq, e_if, e_bOr, e_cB, e_c2, e_V, List.getElem?_cons_zero, List.getElem?_cons_succ, Rs.bind_ok, e_bor1, e_cC, Src.str, e1, e1', e1'', e_asB, Rs.out_ok, e_ret, e_cA, e_aC, e_aN, e4, Bool.false_eq_true, if_false, e_nil, Out.then_nx]
    rfl
theorem law_result_ok (o : Op) (a b m : Int) (hm : 0 < m) (ha : a.natAbs < 18446744073709551616) : F__law_result [.d (.str o.str), .d (.int a), .d (.int b), .d (.int m)] = .ok (.d (.int (o.ap a b % m))) := by
  show (sSeq _ _ [some (.d (.str o.str)), some (.d (.int a)), some (.d (.int b)), some (.d (.int m))]).fin = _
  cases o <;> simp [Op.str, Op.ap, e_V, sh_str plus_ok, sh_str minus_ok, sh_str star_ok, sub_ne_add, mul_ne_add, mul_ne_sub, ha, hm]
theorem after_ok {m n : Int} {st out : PyData} (hm : 0 < m) (hm2 : m ≤ 1000) {k : Nat} (code : List Ins) (hc : ∀ i ∈ code, i.ok k) {a b : RV} {ins regs : List Int} (ha : Ls a ins) (hb : Ls b regs) (hi : ins.length = k) (hr : regs.length = 8) (h1 : Regs m ins) (h2 : Regs m regs) :
    F__law_after [.d (progD m n st out), .d (.list (code.map Ins.d)), a, b] = .ok (.ol ((runM m ins code regs).map .int)) := by
  obtain ⟨env', e1, j5, j6, j7, j8, j9, j10, rfl, _, _⟩ := loopF_rel (tg := .tp [5, 6, 7, 8, 9]) (f := L0__law_after) (fun _ (rs : List Int) env => ∃ j5 j6 j7 j8 j9 j10, env = [some (.d (progD m n st out)), some (.d (.list (code.map Ins.d))), some a, some b, some (.ol (rs.map .int)), j5, j6, j7, j8, j9, j10] ∧ rs.length = 8 ∧ Regs m rs) Ins.d (fun rs i => i.do m ins rs) code regs
    [some (.d (progD m n st out)), some (.d (.list (code.map Ins.d))), some a, some b, some (.ol (regs.map .int)), none, none, none, none, none, none] (by
      rintro j rs env i hx ⟨j5, j6, j7, j8, j9, j10, rfl, hl, hR⟩
      have ho := hc i (List.mem_of_getElem? hx)
      have v1 := law_value_ok i.l ho.l ha (b := .bl (rs.map .int)) (.inr rfl) hi hl
      have v2 := law_value_ok i.r ho.r ha (b := .bl (rs.map .int)) (.inr rfl) hi hl
      have v3 := law_result_ok i.op (i.l.val ins rs) (i.r.val ins rs) m hm (by have := Src.bound hm h1 hR ho.l; omega)
      have hx : gIx (.bl (rs.map .int)) (.d (.int i.reg)) = .ok (.d (.int (rs.getD i.reg 0))) := Ls.ix (.inr rfl) (by have := ho.reg; omega)
      have hn : ixN (rs.map PyData.int).length (i.reg : Int) = some i.reg := ixN_nat (by have := ho.reg; simp; omega)
      have hp : gIx (.d (progD m n st out)) (.d (.int 0)) = .ok (.d (.int m)) := rfl
      have hdo : rs.set i.reg ((if i.neg then rs.getD i.reg 0 - i.op.ap (i.l.val ins rs) (i.r.val ins rs) else rs.getD i.reg 0 + i.op.ap (i.l.val ins rs) (i.r.val ins rs)) % m) = i.do m ins rs := rfl
      refine ⟨[some (.d (progD m n st out)), some (.d (.list (code.map Ins.d))), some a, some b, some (.ol (rs.map .int)), some (.d (.int i.reg)), some (.d (.str i.sgn)), some (.d (.str i.op.str)), some (.d (.str i.l.str)), some (.d (.str i.r.str)), j10], rfl, ?_⟩
      refine ⟨[some (.d (progD m n st out)), some (.d (.list (code.map Ins.d))), some a, some b, some (.ol ((i.do m ins rs).map .int)), some (.d (.int i.reg)), some (.d (.str i.sgn)), some (.d (.str i.op.str)), some (.d (.str i.l.str)), some (.d (.str i.r.str)), some (.d (.int (if i.neg then -(i.op.ap (i.l.val ins rs) (i.r.val ins rs) % m) else i.op.ap (i.l.val ins rs) (i.r.val ins rs) % m)))], .inl ?_, _, _, _, _, _, _, rfl, by rw [Ins.do_len]; exact hl, Ins.do_regs hm hR i⟩
      unfold L0__law_after
      simp only [e_seq, e_set, e_cA, e_aC, e_aN, e_V, List.getElem?_cons_zero, List.getElem?_cons_succ, Rs.bind_ok, e_bor1, e_bor2, List.length_cons, List.length_nil, Nat.reduceAdd, if_true, List.map_cons, List.map_nil, e_arg1, e_arg3, ha.arg, e_c2, e_cC, hp, v1, v2, v3, Rs.out_ok, e_putd, Nat.reduceLT, List.set_cons_succ, List.set_cons_zero, Out.then_nx]
      generalize i.op.ap (i.l.val ins rs) (i.r.val ins rs) = v at hdo ⊢
      generalize rs.getD i.reg 0 = c at hx hdo ⊢
      cases hg : i.neg with
      | false =>
        rw [hg, if_neg Bool.false_ne_true] at hdo
        have hs : i.sgn = "+" := by simp [Ins.sgn, hg]
        have hq : (c + v % m) % m = (c + v) % m := by simp
        simp only [e_if, e_cB, e_c2, e_V, List.getElem?_cons_zero, List.getElem?_cons_succ, Rs.bind_ok, e_bor1, e_bor2, e_cC, hs, e_eq, e_data1, rsO_some, sh_str plus_ok, sh_str minus_ok, and_self, if_true, eqv_str, add_ne_sub, decide_false, Bool.false_eq_true, if_false, e_okB, e_asB, Rs.out_ok, e_nil, Out.then_nx, e_store, hx, e_addI, hp, e_mod, hm, e_toD1, hn, List.set_cons_succ, List.set_cons_zero, map_set_int, hq, hdo]
      | true =>
        rw [hg, if_pos rfl] at hdo
        have hs : i.sgn = "-" := by simp [Ins.sgn, hg]
        have hq : (c + -(v % m)) % m = (c - v) % m := by rw [← Int.sub_eq_add_neg]; simp
        simp only [e_if, e_cB, e_c2, e_c1, e_set, e_neg, e_putd, List.length_cons, List.length_nil, Nat.reduceAdd, Nat.reduceLT, e_V, List.getElem?_cons_zero, List.getElem?_cons_succ, Rs.bind_ok, e_bor1, e_bor2, e_cC, hs, e_eq, e_data1, rsO_some, sh_str minus_ok, and_self, if_true, eqv_str, decide_true, e_okB, e_asB, Rs.out_ok, Out.then_nx, e_store, hx, e_addI, hp, e_mod, hm, e_toD1, hn, List.set_cons_succ, List.set_cons_zero, map_set_int, hq, hdo]) ⟨none, none, none, none, none, none, rfl, hr, h2⟩
  show (sSeq _ _ [some (.d (progD m n st out)), some (.d (.list (code.map Ins.d))), some a, some b, none, none, none, none, none, none, none]).fin = _
  have s0 : sSet 4 (cA gListC (aC (cV 3) aN)) [some (.d (progD m n st out)), some (.d (.list (code.map Ins.d))), some a, some b, none, none, none, none, none, none, none] = .nx [some (.d (progD m n st out)), some (.d (.list (code.map Ins.d))), some a, some b, some (.ol (regs.map .int)), none, none, none, none, none, none] := by
    simp only [e_set, e_cA, e_aC, e_aN, e_V, List.getElem?_cons_zero, List.getElem?_cons_succ, Rs.bind_ok, hb.list, Rs.out_ok, e_puto, List.length_cons, List.length_nil, Nat.reduceAdd, Nat.reduceLT, if_true, List.set_cons_succ, List.set_cons_zero]
  rw [e_seq, s0, Out.then_nx, e_seq, e_for]
  simp only [e_iA, e_V, List.getElem?_cons_zero, List.getElem?_cons_succ, Rs.bind_ok, e_bor1, e_gAq2, Rs.out_ok, e1, Out.then_nx, e_retV, e_nb2, fin_rt]
  rfl
/-! ### drawn programs -/
inductive Opd where
  | x (i : Nat) | s (k : Nat) | c (v : Nat)
def Opd.str : Opd → Str
  | .x i => lx "x" i
  | .s k => lx "s" k
  | .c v => numS v
/-- n inputs, many steps before, the modulus m -/
def Opd.ok (n many m : Nat) : Opd → Prop
  | .x i => i < n
  | .s k => k < many
  | .c v => v < m
theorem Opd.strOk (o : Opd) : PyData.strOk o.str = true := by
  cases o with
  | x i => exact lx_strOk let_x (by decide) i
  | s k => exact lx_strOk let_s (by decide) k
  | c v => exact num_strOk v
theorem str_len1 {c : Str} {k : Nat} (h : Letter c k) {n : Nat} (hn : n < 100000) : c.length + (numS n).length ≤ 1000000 := by
  have := h.len; have := num_len hn; omega
theorem add_lx {c : Str} {k : Nat} (h : Letter c k) {n : Nat} (hn : n < 100000) : gAdd (.d (.str c)) (.d (.str (numS n))) = .ok (.d (.str (lx c n))) := by
  rw [e_addS, if_pos (str_len1 h hn)]
  rfl
/-! ### rows of digits -/
theorem cut_row (ds : List Int) (a b : Nat) (h : a ≤ b) (h2 : b ≤ ds.length) : gSl (.bl (ds.map .int)) (some (a : Int)) (some (b : Int)) = .ok (.ol (((ds.drop a).take (b - a)).map .int)) := by
  show Rs.ok (RV.ol (cutL (ds.map .int) (some (a : Int)) (some (b : Int)))) = _
  unfold cutL
  rw [HT.sIx_nat, HT.sIx_nat, List.length_map, Nat.min_eq_left h2, Nat.min_eq_left (show a ≤ ds.length by omega), ← List.map_drop, ← List.map_take]
/-- the signs -/
def opN : Nat → Op
  | 0 => .add
  | 1 => .sub
  | _ => .mul
theorem ops_ix (r : Nat) (h : r < 3) : gIx (.d (.str "+-*")) (.d (.int r)) = .ok (.d (.str (opN r).str)) := by
  have key : ∀ (r : Nat) (c : Nat) (s : Str), (("+-*" : Str).length ≤ 1000000) → atI ("+-*" : Str).cps.toList (r : Int) = some c → s = ⟨#[c]⟩ → gIx (.d (.str "+-*")) (.d (.int r)) = .ok (.d (.str s)) := fun r c s h1 h2 h3 => by
    rw [e_ixS, if_pos h1, h2, h3]; rfl
  match r, h with
  | 0, _ => exact key 0 43 _ (by decide +kernel) (by decide +kernel) (by decide +kernel)
  | 1, _ => exact key 1 45 _ (by decide +kernel) (by decide +kernel) (by decide +kernel)
  | 2, _ => exact key 2 42 _ (by decide +kernel) (by decide +kernel) (by decide +kernel)
theorem sgn_ix (r : Nat) (h : r < 2) : gIx (.d (.str "+-")) (.d (.int r)) = .ok (.d (.str (if decide (r = 1) then "-" else "+"))) := by
  have key : ∀ (r : Nat) (c : Nat) (s : Str), (("+-" : Str).length ≤ 1000000) → atI ("+-" : Str).cps.toList (r : Int) = some c → s = ⟨#[c]⟩ → gIx (.d (.str "+-")) (.d (.int r)) = .ok (.d (.str s)) := fun r c s h1 h2 h3 => by
    rw [e_ixS, if_pos h1, h2, h3]; rfl
  match r, h with
  | 0, _ => exact key 0 43 _ (by decide +kernel) (by decide +kernel) (by decide +kernel)
  | 1, _ => exact key 1 45 _ (by decide +kernel) (by decide +kernel) (by decide +kernel)
theorem take5 {l : List Nat} {a r0 r1 r2 r3 r4 : Nat} (h0 : l[a]? = some r0) (h1 : l[a + 1]? = some r1) (h2 : l[a + 2]? = some r2) (h3 : l[a + 3]? = some r3) (h4 : l[a + 4]? = some r4) : (l.drop a).take 5 = [r0, r1, r2, r3, r4] := by
  rw [drop_cons h0, drop_cons h1, drop_cons h2, drop_cons h3, drop_cons h4]; rfl
theorem take7 {l : List Nat} {a r0 r1 r2 r3 r4 r5 r6 : Nat} (h0 : l[a]? = some r0) (h1 : l[a + 1]? = some r1) (h2 : l[a + 2]? = some r2) (h3 : l[a + 3]? = some r3) (h4 : l[a + 4]? = some r4) (h5 : l[a + 5]? = some r5) (h6 : l[a + 6]? = some r6) : (l.drop a).take 7 = [r0, r1, r2, r3, r4, r5, r6] := by
  rw [drop_cons h0, drop_cons h1, drop_cons h2, drop_cons h3, drop_cons h4, drop_cons h5, drop_cons h6]; rfl
theorem cut_rowN (ds : List Nat) (a b : Nat) (h : a ≤ b) (h2 : b ≤ ds.length) : gSl (.bl (ds.map natI)) (some (a : Int)) (some (b : Int)) = .ok (.ol (((ds.drop a).take (b - a)).map natI)) := by
  show Rs.ok (RV.ol (cutL (ds.map natI) (some (a : Int)) (some (b : Int)))) = _
  unfold cutL
  rw [HT.sIx_nat, HT.sIx_nat, List.length_map, Nat.min_eq_left h2, Nat.min_eq_left (show a ≤ ds.length by omega), ← List.map_drop, ← List.map_take]
theorem rep_one (n : Nat) (x : Nat) : (List.replicate n [natI x]).flatten = (List.replicate n x).map natI := by
  induction n with
  | zero => rfl
  | succ n ih => rw [List.replicate_succ, List.flatten_cons, ih, List.replicate_succ, List.map_cons]; rfl
/-- a step of a program -/
structure Stp where
  op : Op
  l : Opd
  r : Opd
def Stp.d (s : Stp) : PyData := .tuple [.str s.op.str, .str s.l.str, .str s.r.str]
theorem Stp.nice (s : Stp) : Nice 1 s.d := Nice.tup fun d hd => by
  simp at hd
  rcases hd with rfl | rfl | rfl
  · exact Nice.str 0 (op_ok _)
  · exact Nice.str 0 (Opd.strOk _)
  · exact Nice.str 0 (Opd.strOk _)
theorem stps_nice (ss : List Stp) : Nice 2 (.list (ss.map Stp.d)) := Nice.lst fun d hd => by
  obtain ⟨s, _, rfl⟩ := List.mem_map.mp hd
  exact s.nice
/-- steps, each with operands that are there -/
def StpsOk (m n : Nat) (ss : List Stp) : Prop := ∀ (k : Nat) (s : Stp), ss[k]? = some s → s.l.ok n k m ∧ s.r.ok n k m
theorem Opd.mono {n a b m : Nat} (h : a ≤ b) : ∀ {o : Opd}, o.ok n a m → o.ok n b m
  | .x _, h' => h'
  | .s _, h' => Nat.lt_of_lt_of_le h' h
  | .c _, h' => h'
/-- the outputs: ascending places of steps, the last step among them -/
structure OutsOk (k : Nat) (os : List Nat) : Prop where
  up : os.Pairwise (· < ·)
  hi : ∀ o ∈ os, o < k
  last : k - 1 ∈ os
theorem nat_any (os : List Nat) (k : Nat) : ((os.map natI).any fun z => PyData.eqv z (.int k)) = decide (k ∈ os) := by
  rw [List.any_map]
  induction os with
  | nil => rfl
  | cons o os ih =>
    rw [List.any_cons, ih]
    simp only [Function.comp, natI, eqv_int, List.mem_cons]
    by_cases h : k = o
    · simp [h]
    · by_cases h2 : k ∈ os
      · simp [h2]
      · simp [h2, h]; omega
theorem sh_natsL (os : List Nat) : SeqAt.shaped (.list (os.map natI)) = true := by
  have := sh_lst (os.map fun n : Nat => (n : Int))
  rwa [List.map_map] at this
theorem sh_natsT (os : List Nat) : SeqAt.shaped (.tuple (os.map natI)) = true := by
  have := sh_tup (os.map fun n : Nat => (n : Int))
  rwa [List.map_map] at this
theorem StpsOk.snoc {m n : Nat} {ss : List Stp} (h : StpsOk m n ss) {s : Stp} (hl : s.l.ok n ss.length m) (hr : s.r.ok n ss.length m) : StpsOk m n (ss ++ [s]) := by
  intro k s' hk
  rcases Nat.lt_trichotomy k ss.length with h' | h' | h'
  · exact h k s' (by rwa [List.getElem?_append_left h'] at hk)
  · subst h'
    rw [List.getElem?_append_right (Nat.le_refl _), Nat.sub_self] at hk
    cases hk
    exact ⟨hl, hr⟩
  · rw [List.getElem?_eq_none (by simp; omega)] at hk
    cases hk
theorem operand_ok (kind a m n many : Nat) (hm : 0 < m) (hm2 : m < 100000) (hn : 0 < n) (hn2 : n < 100000) (hy : many < 100000) : ∃ o : Opd, F__law_operand [.d (.int kind), .d (.int a), .d (.int m), .d (.int n), .d (.int many)] = .ok (.d (.str o.str)) ∧ o.ok n many m := by
  have b1 : a % n < 100000 := Nat.lt_trans (Nat.mod_lt a hn) hn2
  have b2 : a % m < 100000 := Nat.lt_trans (Nat.mod_lt a hm) hm2
  have c1 := str_ok b1
  have c2' := str_ok b2
  have m1 := e_modN a n hn
  have m2 := e_modN a m hm
  by_cases k0 : (kind : Int) = 0
  · refine ⟨.x (a % n), ?_, Nat.mod_lt a hn⟩
    show (sSeq _ _ [some (.d (.int kind)), some (.d (.int a)), some (.d (.int m)), some (.d (.int n)), some (.d (.int many))]).fin = _
    simp only [e_seq, e_if, e_cB, e_c2, e_V, List.getElem?_cons_zero, List.getElem?_cons_succ, Rs.bind_ok, e_bor1, e_cC, e_eq, e_data1, rsO_some, sh_int, and_self, if_true, eqv_int, decide_eq_true k0, e_okB, e_asB, Rs.out_ok, e_ret, e_cA, e_aC, e_aN, m1, c1, add_lx let_x b1, e_nb1, Out.then_rt, fin_rt]
    rfl
  · by_cases k1 : (kind : Int) = 1
    · refine ⟨.c (a % m), ?_, Nat.mod_lt a hm⟩
      show (sSeq _ _ [some (.d (.int kind)), some (.d (.int a)), some (.d (.int m)), some (.d (.int n)), some (.d (.int many))]).fin = _
      simp only [e_seq, e_if, e_bOr, e_cB, e_c2, e_V, List.getElem?_cons_zero, List.getElem?_cons_succ, Rs.bind_ok, e_bor1, e_cC, e_eq, e_data1, rsO_some, sh_int, and_self, if_true, eqv_int, decide_eq_false k0, decide_eq_true k1, Bool.false_eq_true, if_false, e_nil, Out.then_nx, e_okB, e_asB, Rs.out_ok, e_ret, e_cA, e_aC, e_aN, m2, c2', e_nb1, Out.then_rt, fin_rt]
      rfl
    · by_cases k2 : (many : Int) = 0
      · refine ⟨.c (a % m), ?_, Nat.mod_lt a hm⟩
        show (sSeq _ _ [some (.d (.int kind)), some (.d (.int a)), some (.d (.int m)), some (.d (.int n)), some (.d (.int many))]).fin = _
        simp only [e_seq, e_if, e_bOr, e_cB, e_c2, e_V, List.getElem?_cons_zero, List.getElem?_cons_succ, Rs.bind_ok, e_bor1, e_cC, e_eq, e_data1, rsO_some, sh_int, and_self, if_true, eqv_int, decide_eq_false k0, decide_eq_false k1, decide_eq_true k2, Bool.false_eq_true, if_false, e_nil, Out.then_nx, e_okB, e_asB, Rs.out_ok, e_ret, e_cA, e_aC, e_aN, m2, c2', e_nb1, Out.then_rt, fin_rt]
        rfl
      · have hp : 0 < many := by omega
        have m3 := e_modN a many hp
        have hlt := Nat.mod_lt a hp
        have b3 : many - 1 - a % many < 100000 := by omega
        have c3 := str_ok b3
        have e3 : (many : Int) - 1 - ((a % many : Nat) : Int) = ((many - 1 - a % many : Nat) : Int) := by omega
        refine ⟨.s (many - 1 - a % many), ?_, show _ < many by omega⟩
        show (sSeq _ _ [some (.d (.int kind)), some (.d (.int a)), some (.d (.int m)), some (.d (.int n)), some (.d (.int many))]).fin = _
        simp only [e_seq, e_if, e_bOr, e_cB, e_c2, e_V, List.getElem?_cons_zero, List.getElem?_cons_succ, Rs.bind_ok, e_bor1, e_cC, e_eq, e_data1, rsO_some, sh_int, and_self, if_true, eqv_int, decide_eq_false k0, decide_eq_false k1, decide_eq_false k2, Bool.false_eq_true, if_false, e_nil, Out.then_nx, e_okB, e_asB, Rs.out_ok, e_ret, e_cA, e_aC, e_aN, m3, e_sub, e3, c3, add_lx let_s b3, e_nb1, fin_rt]
        rfl
/-- the sizes of a drawn program -/
def szP (most : Nat) : List Nat := [12, 2, most, 3, 4, 13, 4, 13, 3, 4, 13, 4, 13, 3, 4, 13, 4, 13, 3, 4, 13, 4, 13, 3, 4, 13, 4, 13, 3, 4, 13, 4, 13, 3, 4, 13, 4, 13, 3, 3, 3, 3, 3, 3, 3, 3]
theorem szP_row (most j : Nat) (hj : j < 7) : (szP most)[3 + 5 * j]? = some 3 ∧ (szP most)[3 + 5 * j + 1]? = some 4 ∧ (szP most)[3 + 5 * j + 2]? = some 13 ∧ (szP most)[3 + 5 * j + 3]? = some 4 ∧ (szP most)[3 + 5 * j + 4]? = some 13 := by
  have : j = 0 ∨ j = 1 ∨ j = 2 ∨ j = 3 ∨ j = 4 ∨ j = 5 ∨ j = 6 := by omega
  rcases this with rfl | rfl | rfl | rfl | rfl | rfl | rfl <;> exact ⟨rfl, rfl, rfl, rfl, rfl⟩
theorem szP_last (most j : Nat) (hj : j < 8) : (szP most)[38 + j]? = some 3 := by
  have : j = 0 ∨ j = 1 ∨ j = 2 ∨ j = 3 ∨ j = 4 ∨ j = 5 ∨ j = 6 ∨ j = 7 := by omega
  rcases this with rfl | rfl | rfl | rfl | rfl | rfl | rfl | rfl <;> rfl
theorem prog_loop (a b c : Option RV) (nd : List Nat) (most m n cnt : Nat) (hd : nd.length = 46) (hb : ∀ (i s : Nat), (szP most)[i]? = some s → ∃ d, nd[i]? = some d ∧ d < s) (hc : cnt ≤ 7) (hm : 0 < m) (hm2 : m ≤ 1000) (hn : 0 < n) (hn2 : n ≤ 10) (j7 j8 j9 j10 j11 : Option RV) :
    ∃ ss j7' j8' j9' j10', loopF (.nm 7) L0__law_program ((List.range cnt).map natI) [a, b, c, some (.ol (nd.map natI)), some (.d (natI m)), some (.d (natI n)), some (.ol []), j7, j8, j9, j10, j11]
      = .nx [a, b, c, some (.ol (nd.map natI)), some (.d (natI m)), some (.d (natI n)), some (.ol (ss.map Stp.d)), j7', j8', j9', j10', j11] ∧ StpsOk m n ss ∧ ss.length ≤ cnt ∧ (1 ≤ cnt → 1 ≤ ss.length) := by
  obtain ⟨env', e1, ss, j7', j8', j9', j10', rfl, h1, h2, h3⟩ := loopF_ex (tg := .nm 7) (f := L0__law_program) (fun i env => ∃ ss j7 j8 j9 j10, env = [a, b, c, some (.ol (nd.map natI)), some (.d (natI m)), some (.d (natI n)), some (.ol (ss.map Stp.d)), j7, j8, j9, j10, j11] ∧ StpsOk m n ss ∧ ss.length ≤ i ∧ (1 ≤ i → 1 ≤ ss.length)) natI (List.range cnt)
    [a, b, c, some (.ol (nd.map natI)), some (.d (natI m)), some (.d (natI n)), some (.ol []), j7, j8, j9, j10, j11] (by
      rintro i env x hx ⟨ss, j7, j8, j9, j10, rfl, h1, h2, h3⟩
      have hi : i < cnt := by simpa using (List.getElem?_eq_some_iff.mp hx).1
      have ex : x = i := by rw [List.getElem?_range hi] at hx; exact (Option.some.inj hx).symm
      subst ex
      obtain ⟨z0, z1, z2, z3, z4⟩ := szP_row most x (by omega)
      obtain ⟨r0, q0, b0⟩ := hb _ _ z0
      obtain ⟨r1, q1, b1⟩ := hb _ _ z1
      obtain ⟨r2, q2, b2⟩ := hb _ _ z2
      obtain ⟨r3, q3, b3⟩ := hb _ _ z3
      obtain ⟨r4, q4, b4⟩ := hb _ _ z4
      have hrow : gSl (.bl (nd.map natI)) (some (3 + 5 * (x : Int))) (some (8 + 5 * (x : Int))) = .ok (.ol ([r0, r1, r2, r3, r4].map natI)) := by
        have := cut_rowN nd (3 + 5 * x) (8 + 5 * x) (by omega) (by omega)
        rw [show 8 + 5 * x - (3 + 5 * x) = 5 by omega, take5 q0 q1 q2 q3 q4] at this
        simpa using this
      obtain ⟨o1, f1, v1⟩ := operand_ok r1 r2 m n ss.length hm (by omega) hn (by omega) (by omega)
      obtain ⟨o2, f2, v2⟩ := operand_ok r3 r4 m n ss.length hm (by omega) hn (by omega) (by omega)
      have hop := ops_ix r0 b0
      have mulOk : (5 : Int).natAbs < 18446744073709551616 ∨ ((x : Int)).natAbs < 18446744073709551616 := .inl (by decide)
      let E := fun (ss' : List Stp) => [a, b, c, some (RV.ol (nd.map natI)), some (.d (natI m)), some (.d (natI n)), some (.ol (ss'.map Stp.d)), some (.d (natI x)), some (.ol ([r0, r1, r2, r3, r4].map natI)), some (.d (.str o1.str)), some (.d (.str o2.str)), j11]
      have hstep : ∃ t : Bool, L0__law_program [a, b, c, some (.ol (nd.map natI)), some (.d (natI m)), some (.d (natI n)), some (.ol (ss.map Stp.d)), some (.d (natI x)), j8, j9, j10, j11] = .nx (E (if t then ss ++ [⟨opN r0, o1, o2⟩] else ss)) ∧ (ss = [] → t = true) := by
        have sh1 : SeqAt.shaped (.tuple [.str (opN r0).str, .str o1.str, .str o2.str]) = true := (Stp.nice ⟨opN r0, o1, o2⟩).shaped (by decide)
        have sh2 : SeqAt.shaped (.list (ss.map Stp.d)) = true := (stps_nice ss).shaped (by decide)
        have hz : ss.length ≤ 1000000 := by omega
        obtain ⟨t, ht⟩ : ∃ t : Bool, t = !((ss.map Stp.d).any fun z => PyData.eqv z (.tuple [.str (opN r0).str, .str o1.str, .str o2.str])) := ⟨_, rfl⟩
        refine ⟨t, ?_, fun e => by rw [ht, e]; rfl⟩
        unfold L0__law_program
        simp only [List.map_cons, List.map_nil, natI] at hrow
        simp only [e_nil, e_seq, e_fz, e_bk, e_ct, e_ret, e_retN, e_drop, e_set, e_if, e_for, e_cC, e_c2, e_c1, e_cA, e_aN, e_aC, e_cB, e_asB, e_bNot, e_bAnd, e_bOr, e_vAnd, e_vOr, e_vNot, e_vIf, e_bYes, e_iL, e_iT, e_iLb, e_iR, e_gL1, e_gL2, e_gL3, e_gT, e_gLb1, e_gLb2, e_gLb3, e_gLb4, e_nb1, e_nb2, e_bor1, e_bor2, e_bor3, e_bor4, e_arg1, e_arg2, e_arg3, e_arg4, e_putd, e_puto, e_toD1, e_toD2, e_allD0, e_allD1, e_allD2, e_gTupl, e_gList, e_tgnm, e_tgtp, e_tg0, e_tg1, e_sq1, e_sq2, e_sq3, e_sq4, e_sq5, e_qv2, e_qv3, e_qv4, e_qv5, e_data1, e_data2, e_data3, e_okI, e_okB, e_i2, e_sub, e_mul, e_mod, e_div, e_pow, e_lt, e_le, e_gt, e_ge, e_neg, e_addI, e_addS, e_addT, e_addL1, e_addL2, e_addL3, e_addL4, e_addL5, e_addL6, e_addL7, e_addL8, e_addL9, e_eq, e_ne, e_in, e_notIn, e_inT, e_inT2, e_inL1, e_inL2, e_inL3, e_is, e_isNot, e_isN1, e_isN2, e_isN3, e_isN4, e_isN5, e_isN6, e_isN7, e_ixT, e_ixL, e_ixO, e_ixB, e_ixSc, e_lenT, e_lenL, e_lenO, e_lenB, e_lenSc, e_lenS, e_tupT, e_tupL, e_tupO, e_tupB, e_lisT, e_lisL, e_lisO, e_lisB, e_min2, e_max2, e_any, e_all, e_sum, e_sorted, e_rev, e_sl, e_oN, e_isi, e_lc, e_wipe0, e_wipe1, e_iA, e_iAb, e_gAq1, e_gAq2, e_gAq3, e_gAqb1, e_gAqb2, e_gAqb3, e_gAqb4, e_no, e_cCh, e_cChI, e_aug, e_decT, e_decF, e_cDispS, e_cDT, e_cDK, e_cDisp1, e_storeA, e_stR1, e_stR2, e_stR3, e_sd1, e_keyD1, e_keyD2, e_keyTD, e_intsD, e_intsD0, e_borT, e_borT2, e_borK, e_borK2, e_argT, e_argT2, e_argK, e_argK2, e_nbT, e_nbK, e_putT, e_putK, e_gAt1, e_gAt2, e_gAt3, e_gAt4, e_gGetDK, e_gGetDT, e_gIxD, e_gInD, e_gNotInD, e_cGet1, e_cGet2, e_dk1, e_dk2, e_dk3, e_dk4, e_dt1, e_dt2, e_del, atI_zero, e_at1, e_at2, e_at3, e_at4, e_at5, e_at6, e_at7, e_at8, e_at9, e_atm, e_V, e_retV, e_unp, e_app, e_store, e_fzE, oS, rsO_some, Rs.bind_ok, Rs.bind_no, Rs.out_ok, Out.then_nx, Out.then_rt, Out.then_ct, Out.then_bk, fin_rt, fin_nx, List.getElem?_cons_zero, List.getElem?_cons_succ, List.set_cons_succ, List.set_cons_zero, List.length_cons, List.length_nil, Nat.reduceAdd, Nat.reduceLT, Nat.reduceLeDiff, Nat.reduceEqDiff, if_true, if_false, Bool.false_eq_true, Bool.not_true, Bool.not_false, and_self, true_and, and_true, List.map_cons, List.map_nil, Option.map_some, sh_int, sh_bool, sh_none, sh_tup, sh_lst, eqv_int, reduceIte, Option.bind_some, Option.bind_none, kitB_ll, kitB_lt, kitB_tt, kitB_tl, kitB_ii, tyD_list, tyD_int, Bool.true_and, Bool.false_and, Bool.and_true, Bool.and_false, Bool.or_true, Bool.true_or, Bool.false_or, Bool.or_false, Bool.and_self, Bool.or_self, e_cAK, List.append_nil, e_andB, e_orB, e_andR, e_orR, tyD_tuple, eqv_bool, eqv_none, tyD_bool, tyD_str, tyD_none, kitB_bb, kitB_nb, kitB_bi, kitB_ib, kitB_nl, kitB_nt, beq_self_eq_true, natI, if_pos mulOk, hrow, List.length_map, f1, f2, hop, sh1, sh2, if_pos hz, ← ht]
        cases t with
        | true =>
          simp only [if_true]
          rw [show E (ss ++ [⟨opN r0, o1, o2⟩]) = [a, b, c, some (RV.ol (nd.map natI)), some (.d (natI m)), some (.d (natI n)), some (.ol (ss.map Stp.d ++ [Stp.d ⟨opN r0, o1, o2⟩])), some (.d (natI x)), some (.ol ([r0, r1, r2, r3, r4].map natI)), some (.d (.str o1.str)), some (.d (.str o2.str)), j11] by simp only [E, List.map_append, List.map_cons, List.map_nil]]
          rfl
        | false => rfl
      obtain ⟨t, e1, ht⟩ := hstep
      refine ⟨[a, b, c, some (.ol (nd.map natI)), some (.d (natI m)), some (.d (natI n)), some (.ol (ss.map Stp.d)), some (.d (natI x)), j8, j9, j10, j11], rfl, E (if t then ss ++ [⟨opN r0, o1, o2⟩] else ss), .inl e1, (if t then ss ++ [⟨opN r0, o1, o2⟩] else ss), _, _, _, _, rfl, ?_, ?_, fun _ => ?_⟩
      · cases t with
        | false => exact h1
        | true =>
          intro k s hk
          rw [if_pos rfl] at hk
          rcases Nat.lt_trichotomy k ss.length with h | h | h
          · exact h1 k s (by rwa [List.getElem?_append_left h] at hk)
          · subst h
            rw [List.getElem?_append_right (Nat.le_refl _), Nat.sub_self] at hk
            cases hk
            exact ⟨v1, v2⟩
          · rw [List.getElem?_eq_none (by simp; omega)] at hk
            cases hk
      · cases t <;> simp <;> omega
      · cases t with
        | false =>
          show 1 ≤ ss.length
          exact Nat.lt_of_not_le fun h => Bool.false_ne_true (ht (List.eq_nil_of_length_eq_zero (by omega)))
        | true => simp) ⟨[], j7, j8, j9, j10, rfl, fun k s h => by simp at h, by simp, by simp⟩
  rw [List.length_range] at h2 h3
  exact ⟨ss, j7', j8', j9', j10', e1, h1, h2, h3⟩
theorem sizes_prog (most : Nat) : [PyData.int 12, .int 2, .int (most : Int)] ++ (List.replicate (7 : Int).toNat [PyData.int 3, .int 4, .int 13, .int 4, .int 13]).flatten ++ (List.replicate (8 : Int).toNat [PyData.int 3]).flatten = (szP most).map natI := rfl
theorem program_ok (ns : List Int) (k most : Nat) (h1 : 1 ≤ most) (h2 : most ≤ 7) : ∃ (m n : Nat) (ss : List Stp) (os : List Nat),
    F__law_program [.sc ns, .d (.int k), .d (.int most)] = .ok (.d (progD m n (.tuple (ss.map Stp.d)) (.tuple (os.map natI)))) ∧ 2 ≤ m ∧ m ≤ 13 ∧ 1 ≤ n ∧ n ≤ 2 ∧ StpsOk m n ss ∧ 1 ≤ ss.length ∧ ss.length ≤ most ∧ OutsOk ss.length os := by
  obtain ⟨nd, e1, hl, hb⟩ := draw_nat ns k (szP most) (by
    intro s hs
    simp only [szP, List.mem_cons, List.not_mem_nil, or_false] at hs
    omega) (by simp [szP])
  obtain ⟨d0, q0, b0⟩ := hb 0 12 rfl
  obtain ⟨d1, q1, b1⟩ := hb 1 2 rfl
  obtain ⟨d2, q2, b2⟩ := hb 2 most rfl
  have a0 : atI (nd.map natI) 0 = some (.int d0) := atI_nats (i := 0) q0
  have a1 : atI (nd.map natI) 1 = some (.int d1) := atI_nats (i := 1) q1
  have a2 : atI (nd.map natI) 2 = some (.int d2) := atI_nats (i := 2) q2
  obtain ⟨ss, j7, j8, j9, j10, e2, s1, s2, s3⟩ := prog_loop (some (.sc ns)) (some (.d (.int k))) (some (.d (.int most))) nd most (2 + d0) (1 + d1) (1 + d2) hl hb (by omega) (by omega) (by omega) (by omega) (by omega) none none none none none
  have s3 := s3 (by omega)
  have hr := e_R1n (n := 1 + d2) (by omega)
  rw [rng_nat] at hr
  have hr2 := e_R1n (n := ss.length) (by omega)
  rw [rng_nat] at hr2
  obtain ⟨os0, ho⟩ : ∃ os0, os0 = (List.range ss.length).filter fun j => decide (nd[38 + j]? = some 0) := ⟨_, rfl⟩
  have hc : ∀ (e : VEnv) (r6 : Option RV), e = [some (.sc ns), some (.d (.int k)), some (.d (.int most)), some (.ol (nd.map natI)), some (.d (natI (2 + d0))), some (.d (natI (1 + d1))), r6, none, j8, j9, j10, none] → lcF (.nm 7) (cB (c2 gEq (c2 gIx (cV 3) (c2 gAdd (cC (.int 38)) (cV 7))) (cC (.int 0)))) (cV 7) e ((List.range ss.length).map natI) = .ok (os0.map natI) := by
    rintro e r6 rfl
    rw [ho]
    refine lcF_map natI (fun j => decide (nd[38 + j]? = some 0)) natI (List.range ss.length) fun x hx => ⟨_, rfl, ?_, fun _ => ⟨.d (natI x), rfl, rfl⟩⟩
    have hx' : x < 8 := by have := List.mem_range.mp hx; omega
    obtain ⟨d, qd, bd⟩ := hb (38 + x) 3 (szP_last most x hx')
    have ad : atI (nd.map natI) (38 + (x : Int)) = some (.int d) := by
      have := atI_nats qd
      rwa [Int.natCast_add] at this
    simp only [e_nil, e_seq, e_fz, e_bk, e_ct, e_ret, e_retN, e_drop, e_set, e_if, e_for, e_cC, e_c2, e_c1, e_cA, e_aN, e_aC, e_cB, e_asB, e_bNot, e_bAnd, e_bOr, e_vAnd, e_vOr, e_vNot, e_vIf, e_bYes, e_iL, e_iT, e_iLb, e_iR, e_gL1, e_gL2, e_gL3, e_gT, e_gLb1, e_gLb2, e_gLb3, e_gLb4, e_nb1, e_nb2, e_bor1, e_bor2, e_bor3, e_bor4, e_arg1, e_arg2, e_arg3, e_arg4, e_putd, e_puto, e_toD1, e_toD2, e_allD0, e_allD1, e_allD2, e_gTupl, e_gList, e_tgnm, e_tgtp, e_tg0, e_tg1, e_sq1, e_sq2, e_sq3, e_sq4, e_sq5, e_qv2, e_qv3, e_qv4, e_qv5, e_data1, e_data2, e_data3, e_okI, e_okB, e_i2, e_sub, e_mul, e_mod, e_div, e_pow, e_lt, e_le, e_gt, e_ge, e_neg, e_addI, e_addS, e_addT, e_addL1, e_addL2, e_addL3, e_addL4, e_addL5, e_addL6, e_addL7, e_addL8, e_addL9, e_eq, e_ne, e_in, e_notIn, e_inT, e_inT2, e_inL1, e_inL2, e_inL3, e_is, e_isNot, e_isN1, e_isN2, e_isN3, e_isN4, e_isN5, e_isN6, e_isN7, e_ixT, e_ixL, e_ixO, e_ixB, e_ixSc, e_lenT, e_lenL, e_lenO, e_lenB, e_lenSc, e_lenS, e_tupT, e_tupL, e_tupO, e_tupB, e_lisT, e_lisL, e_lisO, e_lisB, e_min2, e_max2, e_any, e_all, e_sum, e_sorted, e_rev, e_sl, e_oN, e_isi, e_lc, e_wipe0, e_wipe1, e_iA, e_iAb, e_gAq1, e_gAq2, e_gAq3, e_gAqb1, e_gAqb2, e_gAqb3, e_gAqb4, e_no, e_cCh, e_cChI, e_aug, e_decT, e_decF, e_cDispS, e_cDT, e_cDK, e_cDisp1, e_storeA, e_stR1, e_stR2, e_stR3, e_sd1, e_keyD1, e_keyD2, e_keyTD, e_intsD, e_intsD0, e_borT, e_borT2, e_borK, e_borK2, e_argT, e_argT2, e_argK, e_argK2, e_nbT, e_nbK, e_putT, e_putK, e_gAt1, e_gAt2, e_gAt3, e_gAt4, e_gGetDK, e_gGetDT, e_gIxD, e_gInD, e_gNotInD, e_cGet1, e_cGet2, e_dk1, e_dk2, e_dk3, e_dk4, e_dt1, e_dt2, e_del, atI_zero, e_at1, e_at2, e_at3, e_at4, e_at5, e_at6, e_at7, e_at8, e_at9, e_atm, e_V, e_retV, e_unp, e_app, e_store, e_fzE, oS, rsO_some, Rs.bind_ok, Rs.bind_no, Rs.out_ok, Out.then_nx, Out.then_rt, Out.then_ct, Out.then_bk, fin_rt, fin_nx, List.getElem?_cons_zero, List.getElem?_cons_succ, List.set_cons_succ, List.set_cons_zero, List.length_cons, List.length_nil, Nat.reduceAdd, Nat.reduceLT, Nat.reduceLeDiff, Nat.reduceEqDiff, if_true, if_false, Bool.false_eq_true, Bool.not_true, Bool.not_false, and_self, true_and, and_true, List.map_cons, List.map_nil, Option.map_some, sh_int, sh_bool, sh_none, sh_tup, sh_lst, eqv_int, reduceIte, Option.bind_some, Option.bind_none, kitB_ll, kitB_lt, kitB_tt, kitB_tl, kitB_ii, tyD_list, tyD_int, Bool.true_and, Bool.false_and, Bool.and_true, Bool.and_false, Bool.or_true, Bool.true_or, Bool.false_or, Bool.or_false, Bool.and_self, Bool.or_self, e_cAK, List.append_nil, e_andB, e_orB, e_andR, e_orR, tyD_tuple, eqv_bool, eqv_none, tyD_bool, tyD_str, tyD_none, kitB_bb, kitB_nb, kitB_bi, kitB_ib, kitB_nl, kitB_nt, beq_self_eq_true, natI, ad, qd, Option.some.injEq]
    congr 1
    rw [decide_eq_decide]
    omega
  have hos0 : os0.Pairwise (· < ·) := by rw [ho]; exact List.Pairwise.filter _ List.pairwise_lt_range
  have hos1 : ∀ o ∈ os0, o < ss.length := by
    intro o h
    rw [ho, List.mem_filter] at h
    exact List.mem_range.mp h.1
  have hlen : os0.length ≤ 1000000 := by
    have : os0.length ≤ (List.range ss.length).length := by rw [ho]; exact List.length_filter_le _ _
    rw [List.length_range] at this
    omega
  have hany := nat_any os0 (ss.length - 1)
  have hcast : (ss.length : Int) - 1 = ((ss.length - 1 : Nat) : Int) := by omega
  have hlr : ss.length ≤ 1000000 := by omega
  have hc' := hc _ (some (.ol (ss.map Stp.d))) rfl
  simp only [natI] at hc'
  have sI : SeqAt.shaped (.int ((ss.length - 1 : Nat) : Int)) = true := rfl
  have ec : (2 : Int) + (d0 : Int) = ((2 + d0 : Nat) : Int) := by omega
  have ec1 : (1 : Int) + (d1 : Int) = ((1 + d1 : Nat) : Int) := by omega
  have ec2 : (1 : Int) + (d2 : Int) = ((1 + d2 : Nat) : Int) := by omega
  have t0 : gAdd (RV.ol [.int 12, .int 2, .int most]) (.ol (List.replicate (7 : Int).toNat [PyData.int 3, .int 4, .int 13, .int 4, .int 13]).flatten) = .ok (.ol ([PyData.int 12, .int 2, .int most] ++ (List.replicate (7 : Int).toNat [PyData.int 3, .int 4, .int 13, .int 4, .int 13]).flatten)) := rfl
  have t1 : gAdd (RV.ol ([PyData.int 12, .int 2, .int most] ++ (List.replicate (7 : Int).toNat [PyData.int 3, .int 4, .int 13, .int 4, .int 13]).flatten)) (.ol (List.replicate (8 : Int).toNat [PyData.int 3]).flatten) = .ok (.ol ((szP most).map natI)) := rfl
  have r7 : gRep (.ol [PyData.int 3, .int 4, .int 13, .int 4, .int 13]) (.d (.int 7)) = .ok (.ol (List.replicate (7 : Int).toNat [PyData.int 3, .int 4, .int 13, .int 4, .int 13]).flatten) := e_rep rfl (by decide) (by decide)
  have r8 : gRep (.ol [PyData.int 3]) (.d (.int 8)) = .ok (.ol (List.replicate (8 : Int).toNat [PyData.int 3]).flatten) := e_rep rfl (by decide) (by decide)
  have eL : [some (RV.sc ns), some (.d (.int k)), some (.d (.int most)), some (.ol (nd.map natI)), some (.d (.int ((2 + d0 : Nat) : Int))), some (.d (.int ((1 + d1 : Nat) : Int))), some (.ol []), none, none, none, none, none] = [some (RV.sc ns), some (.d (.int k)), some (.d (.int most)), some (.ol (nd.map natI)), some (.d (natI (2 + d0))), some (.d (natI (1 + d1))), some (.ol []), none, none, none, none, none] := rfl
  have fin : ∀ os : List Nat, (F__law_program [.sc ns, .d (.int k), .d (.int most)] = .ok (.d (progD (2 + d0 : Nat) (1 + d1 : Nat) (.tuple (ss.map Stp.d)) (.tuple (os.map natI))))) → OutsOk ss.length os → ∃ (m n : Nat) (ss : List Stp) (os : List Nat),
    F__law_program [.sc ns, .d (.int k), .d (.int most)] = .ok (.d (progD m n (.tuple (ss.map Stp.d)) (.tuple (os.map natI)))) ∧ 2 ≤ m ∧ m ≤ 13 ∧ 1 ≤ n ∧ n ≤ 2 ∧ StpsOk m n ss ∧ 1 ≤ ss.length ∧ ss.length ≤ most ∧ OutsOk ss.length os :=
    fun os e o => ⟨2 + d0, 1 + d1, ss, os, e, by omega, by omega, by omega, by omega, s1, s3, by omega, o⟩
  have go : (fnD 12 B__law_program) [.sc ns, .d (.int k), .d (.int most)] = .ok (.d (progD (2 + d0 : Nat) (1 + d1 : Nat) (.tuple (ss.map Stp.d)) (.tuple ((if ss.length - 1 ∈ os0 then os0 else os0 ++ [ss.length - 1]).map natI)))) := by
    show (B__law_program [some (.sc ns), some (.d (.int k)), some (.d (.int most)), none, none, none, none, none, none, none, none, none]).fin = _
    unfold B__law_program
    simp only [e_nil, e_seq, e_fz, e_bk, e_ct, e_ret, e_retN, e_drop, e_set, e_if, e_for, e_cC, e_c2, e_c1, e_cA, e_aN, e_aC, e_cB, e_asB, e_bNot, e_bAnd, e_bOr, e_vAnd, e_vOr, e_vNot, e_vIf, e_bYes, e_iL, e_iT, e_iLb, e_iR, e_gL1, e_gL2, e_gL3, e_gT, e_gLb1, e_gLb2, e_gLb3, e_gLb4, e_nb1, e_nb2, e_bor1, e_bor2, e_bor3, e_bor4, e_arg1, e_arg2, e_arg3, e_arg4, e_putd, e_puto, e_toD1, e_toD2, e_allD0, e_allD1, e_allD2, e_gTupl, e_gList, e_tgnm, e_tgtp, e_tg0, e_tg1, e_sq1, e_sq2, e_sq3, e_sq4, e_sq5, e_qv2, e_qv3, e_qv4, e_qv5, e_data1, e_data2, e_data3, e_okI, e_okB, e_i2, e_sub, e_mul, e_mod, e_div, e_pow, e_lt, e_le, e_gt, e_ge, e_neg, e_addI, e_addS, e_addT, e_addL1, e_addL2, e_addL3, e_addL4, e_addL5, e_addL6, e_addL7, e_addL8, e_addL9, e_eq, e_ne, e_in, e_notIn, e_inT, e_inT2, e_inL1, e_inL2, e_inL3, e_is, e_isNot, e_isN1, e_isN2, e_isN3, e_isN4, e_isN5, e_isN6, e_isN7, e_ixT, e_ixL, e_ixO, e_ixB, e_ixSc, e_lenT, e_lenL, e_lenO, e_lenB, e_lenSc, e_lenS, e_tupT, e_tupL, e_tupO, e_tupB, e_lisT, e_lisL, e_lisO, e_lisB, e_min2, e_max2, e_any, e_all, e_sum, e_sorted, e_rev, e_sl, e_oN, e_isi, e_lc, e_wipe0, e_wipe1, e_iA, e_iAb, e_gAq1, e_gAq2, e_gAq3, e_gAqb1, e_gAqb2, e_gAqb3, e_gAqb4, e_no, e_cCh, e_cChI, e_aug, e_decT, e_decF, e_cDispS, e_cDT, e_cDK, e_cDisp1, e_storeA, e_stR1, e_stR2, e_stR3, e_sd1, e_keyD1, e_keyD2, e_keyTD, e_intsD, e_intsD0, e_borT, e_borT2, e_borK, e_borK2, e_argT, e_argT2, e_argK, e_argK2, e_nbT, e_nbK, e_putT, e_putK, e_gAt1, e_gAt2, e_gAt3, e_gAt4, e_gGetDK, e_gGetDT, e_gIxD, e_gInD, e_gNotInD, e_cGet1, e_cGet2, e_dk1, e_dk2, e_dk3, e_dk4, e_dt1, e_dt2, e_del, atI_zero, e_at1, e_at2, e_at3, e_at4, e_at5, e_at6, e_at7, e_at8, e_at9, e_atm, e_V, e_retV, e_unp, e_app, e_store, e_fzE, oS, rsO_some, Rs.bind_ok, Rs.bind_no, Rs.out_ok, Out.then_nx, Out.then_rt, Out.then_ct, Out.then_bk, fin_rt, fin_nx, List.getElem?_cons_zero, List.getElem?_cons_succ, List.set_cons_succ, List.set_cons_zero, List.length_cons, List.length_nil, Nat.reduceAdd, Nat.reduceLT, Nat.reduceLeDiff, Nat.reduceEqDiff, if_true, if_false, Bool.false_eq_true, Bool.not_true, Bool.not_false, and_self, true_and, and_true, List.map_cons, List.map_nil, Option.map_some, sh_int, sh_bool, sh_none, sh_tup, sh_lst, eqv_int, reduceIte, Option.bind_some, Option.bind_none, kitB_ll, kitB_lt, kitB_tt, kitB_tl, kitB_ii, tyD_list, tyD_int, Bool.true_and, Bool.false_and, Bool.and_true, Bool.and_false, Bool.or_true, Bool.true_or, Bool.false_or, Bool.or_false, Bool.and_self, Bool.or_self, e_cAK, List.append_nil, e_andB, e_orB, e_andR, e_orR, tyD_tuple, eqv_bool, eqv_none, tyD_bool, tyD_str, tyD_none, kitB_bb, kitB_nb, kitB_bi, kitB_ib, kitB_nl, kitB_nt, beq_self_eq_true, r7, r8, t0, t1, e1, a0, a1, a2, ec, ec1, ec2, hr, eL, e2]
    simp only [e_nil, e_seq, e_fz, e_bk, e_ct, e_ret, e_retN, e_drop, e_set, e_if, e_for, e_cC, e_c2, e_c1, e_cA, e_aN, e_aC, e_cB, e_asB, e_bNot, e_bAnd, e_bOr, e_vAnd, e_vOr, e_vNot, e_vIf, e_bYes, e_iL, e_iT, e_iLb, e_iR, e_gL1, e_gL2, e_gL3, e_gT, e_gLb1, e_gLb2, e_gLb3, e_gLb4, e_nb1, e_nb2, e_bor1, e_bor2, e_bor3, e_bor4, e_arg1, e_arg2, e_arg3, e_arg4, e_putd, e_puto, e_toD1, e_toD2, e_allD0, e_allD1, e_allD2, e_gTupl, e_gList, e_tgnm, e_tgtp, e_tg0, e_tg1, e_sq1, e_sq2, e_sq3, e_sq4, e_sq5, e_qv2, e_qv3, e_qv4, e_qv5, e_data1, e_data2, e_data3, e_okI, e_okB, e_i2, e_sub, e_mul, e_mod, e_div, e_pow, e_lt, e_le, e_gt, e_ge, e_neg, e_addI, e_addS, e_addT, e_addL1, e_addL2, e_addL3, e_addL4, e_addL5, e_addL6, e_addL7, e_addL8, e_addL9, e_eq, e_ne, e_in, e_notIn, e_inT, e_inT2, e_inL1, e_inL2, e_inL3, e_is, e_isNot, e_isN1, e_isN2, e_isN3, e_isN4, e_isN5, e_isN6, e_isN7, e_ixT, e_ixL, e_ixO, e_ixB, e_ixSc, e_lenT, e_lenL, e_lenO, e_lenB, e_lenSc, e_lenS, e_tupT, e_tupL, e_tupO, e_tupB, e_lisT, e_lisL, e_lisO, e_lisB, e_min2, e_max2, e_any, e_all, e_sum, e_sorted, e_rev, e_sl, e_oN, e_isi, e_lc, e_wipe0, e_wipe1, e_iA, e_iAb, e_gAq1, e_gAq2, e_gAq3, e_gAqb1, e_gAqb2, e_gAqb3, e_gAqb4, e_no, e_cCh, e_cChI, e_aug, e_decT, e_decF, e_cDispS, e_cDT, e_cDK, e_cDisp1, e_storeA, e_stR1, e_stR2, e_stR3, e_sd1, e_keyD1, e_keyD2, e_keyTD, e_intsD, e_intsD0, e_borT, e_borT2, e_borK, e_borK2, e_argT, e_argT2, e_argK, e_argK2, e_nbT, e_nbK, e_putT, e_putK, e_gAt1, e_gAt2, e_gAt3, e_gAt4, e_gGetDK, e_gGetDT, e_gIxD, e_gInD, e_gNotInD, e_cGet1, e_cGet2, e_dk1, e_dk2, e_dk3, e_dk4, e_dt1, e_dt2, e_del, atI_zero, e_at1, e_at2, e_at3, e_at4, e_at5, e_at6, e_at7, e_at8, e_at9, e_atm, e_V, e_retV, e_unp, e_app, e_store, e_fzE, oS, rsO_some, Rs.bind_ok, Rs.bind_no, Rs.out_ok, Out.then_nx, Out.then_rt, Out.then_ct, Out.then_bk, fin_rt, fin_nx, List.getElem?_cons_zero, List.getElem?_cons_succ, List.set_cons_succ, List.set_cons_zero, List.length_cons, List.length_nil, Nat.reduceAdd, Nat.reduceLT, Nat.reduceLeDiff, Nat.reduceEqDiff, if_true, if_false, Bool.false_eq_true, Bool.not_true, Bool.not_false, and_self, true_and, and_true, List.map_cons, List.map_nil, Option.map_some, sh_int, sh_bool, sh_none, sh_tup, sh_lst, eqv_int, reduceIte, Option.bind_some, Option.bind_none, kitB_ll, kitB_lt, kitB_tt, kitB_tl, kitB_ii, tyD_list, tyD_int, Bool.true_and, Bool.false_and, Bool.and_true, Bool.and_false, Bool.or_true, Bool.true_or, Bool.false_or, Bool.or_false, Bool.and_self, Bool.or_self, e_cAK, List.append_nil, e_andB, e_orB, e_andR, e_orR, tyD_tuple, eqv_bool, eqv_none, tyD_bool, tyD_str, tyD_none, kitB_bb, kitB_nb, kitB_bi, kitB_ib, kitB_nl, kitB_nt, beq_self_eq_true, List.length_map, List.length_range, hr2, if_pos hlr, hc', hcast, sh_natsL, hany, if_pos hlen, natI]
    by_cases hm : ss.length - 1 ∈ os0
    · simp only [hm, e_nil, e_seq, e_fz, e_bk, e_ct, e_ret, e_retN, e_drop, e_set, e_if, e_for, e_cC, e_c2, e_c1, e_cA, e_aN, e_aC, e_cB, e_asB, e_bNot, e_bAnd, e_bOr, e_vAnd, e_vOr, e_vNot, e_vIf, e_bYes, e_iL, e_iT, e_iLb, e_iR, e_gL1, e_gL2, e_gL3, e_gT, e_gLb1, e_gLb2, e_gLb3, e_gLb4, e_nb1, e_nb2, e_bor1, e_bor2, e_bor3, e_bor4, e_arg1, e_arg2, e_arg3, e_arg4, e_putd, e_puto, e_toD1, e_toD2, e_allD0, e_allD1, e_allD2, e_gTupl, e_gList, e_tgnm, e_tgtp, e_tg0, e_tg1, e_sq1, e_sq2, e_sq3, e_sq4, e_sq5, e_qv2, e_qv3, e_qv4, e_qv5, e_data1, e_data2, e_data3, e_okI, e_okB, e_i2, e_sub, e_mul, e_mod, e_div, e_pow, e_lt, e_le, e_gt, e_ge, e_neg, e_addI, e_addS, e_addT, e_addL1, e_addL2, e_addL3, e_addL4, e_addL5, e_addL6, e_addL7, e_addL8, e_addL9, e_eq, e_ne, e_in, e_notIn, e_inT, e_inT2, e_inL1, e_inL2, e_inL3, e_is, e_isNot, e_isN1, e_isN2, e_isN3, e_isN4, e_isN5, e_isN6, e_isN7, e_ixT, e_ixL, e_ixO, e_ixB, e_ixSc, e_lenT, e_lenL, e_lenO, e_lenB, e_lenSc, e_lenS, e_tupT, e_tupL, e_tupO, e_tupB, e_lisT, e_lisL, e_lisO, e_lisB, e_min2, e_max2, e_any, e_all, e_sum, e_sorted, e_rev, e_sl, e_oN, e_isi, e_lc, e_wipe0, e_wipe1, e_iA, e_iAb, e_gAq1, e_gAq2, e_gAq3, e_gAqb1, e_gAqb2, e_gAqb3, e_gAqb4, e_no, e_cCh, e_cChI, e_aug, e_decT, e_decF, e_cDispS, e_cDT, e_cDK, e_cDisp1, e_storeA, e_stR1, e_stR2, e_stR3, e_sd1, e_keyD1, e_keyD2, e_keyTD, e_intsD, e_intsD0, e_borT, e_borT2, e_borK, e_borK2, e_argT, e_argT2, e_argK, e_argK2, e_nbT, e_nbK, e_putT, e_putK, e_gAt1, e_gAt2, e_gAt3, e_gAt4, e_gGetDK, e_gGetDT, e_gIxD, e_gInD, e_gNotInD, e_cGet1, e_cGet2, e_dk1, e_dk2, e_dk3, e_dk4, e_dt1, e_dt2, e_del, atI_zero, e_at1, e_at2, e_at3, e_at4, e_at5, e_at6, e_at7, e_at8, e_at9, e_atm, e_V, e_retV, e_unp, e_app, e_store, e_fzE, oS, rsO_some, Rs.bind_ok, Rs.bind_no, Rs.out_ok, Out.then_nx, Out.then_rt, Out.then_ct, Out.then_bk, fin_rt, fin_nx, List.getElem?_cons_zero, List.getElem?_cons_succ, List.set_cons_succ, List.set_cons_zero, List.length_cons, List.length_nil, Nat.reduceAdd, Nat.reduceLT, Nat.reduceLeDiff, Nat.reduceEqDiff, if_true, if_false, Bool.false_eq_true, Bool.not_true, Bool.not_false, and_self, true_and, and_true, List.map_cons, List.map_nil, Option.map_some, sh_int, sh_bool, sh_none, sh_tup, sh_lst, eqv_int, reduceIte, Option.bind_some, Option.bind_none, kitB_ll, kitB_lt, kitB_tt, kitB_tl, kitB_ii, tyD_list, tyD_int, Bool.true_and, Bool.false_and, Bool.and_true, Bool.and_false, Bool.or_true, Bool.true_or, Bool.false_or, Bool.or_false, Bool.and_self, Bool.or_self, e_cAK, List.append_nil, e_andB, e_orB, e_andR, e_orR, tyD_tuple, eqv_bool, eqv_none, tyD_bool, tyD_str, tyD_none, kitB_bb, kitB_nb, kitB_bi, kitB_ib, kitB_nl, kitB_nt, beq_self_eq_true, decide_true]
      rfl
    · simp only [hm, e_nil, e_seq, e_fz, e_bk, e_ct, e_ret, e_retN, e_drop, e_set, e_if, e_for, e_cC, e_c2, e_c1, e_cA, e_aN, e_aC, e_cB, e_asB, e_bNot, e_bAnd, e_bOr, e_vAnd, e_vOr, e_vNot, e_vIf, e_bYes, e_iL, e_iT, e_iLb, e_iR, e_gL1, e_gL2, e_gL3, e_gT, e_gLb1, e_gLb2, e_gLb3, e_gLb4, e_nb1, e_nb2, e_bor1, e_bor2, e_bor3, e_bor4, e_arg1, e_arg2, e_arg3, e_arg4, e_putd, e_puto, e_toD1, e_toD2, e_allD0, e_allD1, e_allD2, e_gTupl, e_gList, e_tgnm, e_tgtp, e_tg0, e_tg1, e_sq1, e_sq2, e_sq3, e_sq4, e_sq5, e_qv2, e_qv3, e_qv4, e_qv5, e_data1, e_data2, e_data3, e_okI, e_okB, e_i2, e_sub, e_mul, e_mod, e_div, e_pow, e_lt, e_le, e_gt, e_ge, e_neg, e_addI, e_addS, e_addT, e_addL1, e_addL2, e_addL3, e_addL4, e_addL5, e_addL6, e_addL7, e_addL8, e_addL9, e_eq, e_ne, e_in, e_notIn, e_inT, e_inT2, e_inL1, e_inL2, e_inL3, e_is, e_isNot, e_isN1, e_isN2, e_isN3, e_isN4, e_isN5, e_isN6, e_isN7, e_ixT, e_ixL, e_ixO, e_ixB, e_ixSc, e_lenT, e_lenL, e_lenO, e_lenB, e_lenSc, e_lenS, e_tupT, e_tupL, e_tupO, e_tupB, e_lisT, e_lisL, e_lisO, e_lisB, e_min2, e_max2, e_any, e_all, e_sum, e_sorted, e_rev, e_sl, e_oN, e_isi, e_lc, e_wipe0, e_wipe1, e_iA, e_iAb, e_gAq1, e_gAq2, e_gAq3, e_gAqb1, e_gAqb2, e_gAqb3, e_gAqb4, e_no, e_cCh, e_cChI, e_aug, e_decT, e_decF, e_cDispS, e_cDT, e_cDK, e_cDisp1, e_storeA, e_stR1, e_stR2, e_stR3, e_sd1, e_keyD1, e_keyD2, e_keyTD, e_intsD, e_intsD0, e_borT, e_borT2, e_borK, e_borK2, e_argT, e_argT2, e_argK, e_argK2, e_nbT, e_nbK, e_putT, e_putK, e_gAt1, e_gAt2, e_gAt3, e_gAt4, e_gGetDK, e_gGetDT, e_gIxD, e_gInD, e_gNotInD, e_cGet1, e_cGet2, e_dk1, e_dk2, e_dk3, e_dk4, e_dt1, e_dt2, e_del, atI_zero, e_at1, e_at2, e_at3, e_at4, e_at5, e_at6, e_at7, e_at8, e_at9, e_atm, e_V, e_retV, e_unp, e_app, e_store, e_fzE, oS, rsO_some, Rs.bind_ok, Rs.bind_no, Rs.out_ok, Out.then_nx, Out.then_rt, Out.then_ct, Out.then_bk, fin_rt, fin_nx, List.getElem?_cons_zero, List.getElem?_cons_succ, List.set_cons_succ, List.set_cons_zero, List.length_cons, List.length_nil, Nat.reduceAdd, Nat.reduceLT, Nat.reduceLeDiff, Nat.reduceEqDiff, if_true, if_false, Bool.false_eq_true, Bool.not_true, Bool.not_false, and_self, true_and, and_true, List.map_cons, List.map_nil, Option.map_some, sh_int, sh_bool, sh_none, sh_tup, sh_lst, eqv_int, reduceIte, Option.bind_some, Option.bind_none, kitB_ll, kitB_lt, kitB_tt, kitB_tl, kitB_ii, tyD_list, tyD_int, Bool.true_and, Bool.false_and, Bool.and_true, Bool.and_false, Bool.or_true, Bool.true_or, Bool.false_or, Bool.or_false, Bool.and_self, Bool.or_self, e_cAK, List.append_nil, e_andB, e_orB, e_andR, e_orR, tyD_tuple, eqv_bool, eqv_none, tyD_bool, tyD_str, tyD_none, kitB_bb, kitB_nb, kitB_bi, kitB_ib, kitB_nl, kitB_nt, beq_self_eq_true, decide_false, List.map_append, natI]
      rfl
  refine fin _ go ?_
  split
  · rename_i hm
    exact ⟨hos0, hos1, hm⟩
  · rename_i hm
    refine ⟨List.pairwise_append.mpr ⟨hos0, List.pairwise_singleton _ _, fun a ha b hb => ?_⟩, fun o ho => ?_, by simp⟩
    · rw [List.mem_singleton.mp hb]
      have := hos1 a ha
      have : a ≠ ss.length - 1 := fun e => hm (e ▸ ha)
      omega
    · rcases List.mem_append.mp ho with z | z
      · exact hos1 o z
      · rw [List.mem_singleton.mp z]; omega
/-! ### code at random -/
def Src.good (n m reg : Nat) : Src → Prop
  | .x i => i < n
  | .r i => i < 8 ∧ i ≠ reg
  | .c k => k < m
structure Ins.good (n m : Nat) (i : Ins) : Prop where
  reg : i.reg < 8
  l : i.l.good n m i.reg
  r : i.r.good n m i.reg
theorem Src.good.ok {n m reg : Nat} (hn : n ≤ 100000) (hm : m ≤ 100000) : ∀ {s : Src}, s.good n m reg → s.ok n
  | .x i, h => ⟨h, Nat.lt_of_lt_of_le h hn⟩
  | .r i, h => h.1
  | .c k, h => Nat.lt_of_lt_of_le h hm
theorem Ins.good.ok {n m : Nat} (hn : n ≤ 100000) (hm : m ≤ 100000) {i : Ins} (h : i.good n m) : i.ok n := ⟨h.reg, h.l.ok hn hm, h.r.ok hn hm⟩
/-- a source drawn -/
def srcD (n m reg kind num : Nat) : Src := if kind = 0 then .x (num % n) else if kind = 1 then .c (num % m) else .r ((reg + 1 + num % 7) % 8)
theorem srcD_good {n m reg kind num : Nat} (hn : 0 < n) (hm : 0 < m) (hr : reg < 8) : (srcD n m reg kind num).good n m reg := by
  unfold srcD
  split
  · exact Nat.mod_lt _ hn
  · split
    · exact Nat.mod_lt _ hm
    · show _ ∧ _
      omega
theorem word_step (e0 e1 e3 e4 e5 e6 e11 : Option RV) (m n : Nat) (st out : PyData) (hm : 0 < m) (hm2 : m ≤ 1000) (hn : 0 < n) (hn2 : n ≤ 10) (rw8 : List PyData) (ws : List PyData) (reg kind num : Nat) (hr : reg < 8) (hw : ws.length ≤ 5) :
    L0__law_random [e0, e1, some (.d (progD m n st out)), e3, e4, e5, e6, some (.ol (.int reg :: rw8)), some (.ol ws), some (.d (.int kind)), some (.d (.int num)), e11]
     = .nx [e0, e1, some (.d (progD m n st out)), e3, e4, e5, e6, some (.ol (.int reg :: rw8)), some (.ol (ws ++ [.str (srcD n m reg kind num).str])), some (.d (.int kind)), some (.d (.int num)), some (.d (.str (srcD n m reg kind num).str))] := by
  have c1 := e_modN num 7 (by omega)
  have c2' : gMod (.d (.int ((reg : Int) + 1 + ((num % 7 : Nat) : Int)))) (.d (.int 8)) = .ok (.d (.int (((reg + 1 + num % 7) % 8 : Nat) : Int))) := e_modN (reg + 1 + num % 7) 8 (by omega)
  have bx : num % n < 100000 := by have := Nat.mod_lt num hn; omega
  have bc : num % m < 100000 := by have := Nat.mod_lt num hm; omega
  have br : (reg + 1 + num % 7) % 8 < 100000 := by omega
  have s1 := str_ok br
  have s2 := add_lx let_r br
  have s3 := str_ok bx
  have s4 := add_lx let_x bx
  have s5 := str_ok bc
  have c3 := e_modN num n hn
  have c4 := e_modN num m hm
  have hw : ws.length ≤ 1000000 := by omega
  have c1 : gMod (.d (.int (num : Int))) (.d (.int 7)) = .ok (.d (.int ((num % 7 : Nat) : Int))) := c1
  have w0 : ∀ xs : List PyData, atI xs 0 = xs[0]? := fun xs => by cases xs with
    | nil => rfl
    | cons x xs => exact atI_zero x xs
  unfold L0__law_random progD
  have key : ∀ P : Prop, P → True := fun _ _ => trivial
  by_cases k0 : kind = 0
  · subst k0
    have sd : srcD n m reg 0 num = .x (num % n) := rfl
    simp only [e_nil, e_seq, e_fz, e_bk, e_ct, e_ret, e_retN, e_drop, e_set, e_if, e_for, e_cC, e_c2, e_c1, e_cA, e_aN, e_aC, e_cB, e_asB, e_bNot, e_bAnd, e_bOr, e_vAnd, e_vOr, e_vNot, e_vIf, e_bYes, e_iL, e_iT, e_iLb, e_iR, e_gL1, e_gL2, e_gL3, e_gT, e_gLb1, e_gLb2, e_gLb3, e_gLb4, e_nb1, e_nb2, e_bor1, e_bor2, e_bor3, e_bor4, e_arg1, e_arg2, e_arg3, e_arg4, e_putd, e_puto, e_toD1, e_toD2, e_allD0, e_allD1, e_allD2, e_gTupl, e_gList, e_tgnm, e_tgtp, e_tg0, e_tg1, e_sq1, e_sq2, e_sq3, e_sq4, e_sq5, e_qv2, e_qv3, e_qv4, e_qv5, e_data1, e_data2, e_data3, e_okI, e_okB, e_i2, e_sub, e_mul, e_mod, e_div, e_pow, e_lt, e_le, e_gt, e_ge, e_neg, e_addI, e_addS, e_addT, e_addL1, e_addL2, e_addL3, e_addL4, e_addL5, e_addL6, e_addL7, e_addL8, e_addL9, e_eq, e_ne, e_in, e_notIn, e_inT, e_inT2, e_inL1, e_inL2, e_inL3, e_is, e_isNot, e_isN1, e_isN2, e_isN3, e_isN4, e_isN5, e_isN6, e_isN7, e_ixT, e_ixL, e_ixO, e_ixB, e_ixSc, e_lenT, e_lenL, e_lenO, e_lenB, e_lenSc, e_lenS, e_tupT, e_tupL, e_tupO, e_tupB, e_lisT, e_lisL, e_lisO, e_lisB, e_min2, e_max2, e_any, e_all, e_sum, e_sorted, e_rev, e_sl, e_oN, e_isi, e_lc, e_wipe0, e_wipe1, e_iA, e_iAb, e_gAq1, e_gAq2, e_gAq3, e_gAqb1, e_gAqb2, e_gAqb3, e_gAqb4, e_no, e_cCh, e_cChI, e_aug, e_decT, e_decF, e_cDispS, e_cDT, e_cDK, e_cDisp1, e_storeA, e_stR1, e_stR2, e_stR3, e_sd1, e_keyD1, e_keyD2, e_keyTD, e_intsD, e_intsD0, e_borT, e_borT2, e_borK, e_borK2, e_argT, e_argT2, e_argK, e_argK2, e_nbT, e_nbK, e_putT, e_putK, e_gAt1, e_gAt2, e_gAt3, e_gAt4, e_gGetDK, e_gGetDT, e_gIxD, e_gInD, e_gNotInD, e_cGet1, e_cGet2, e_dk1, e_dk2, e_dk3, e_dk4, e_dt1, e_dt2, e_del, atI_zero, e_at1, e_at2, e_at3, e_at4, e_at5, e_at6, e_at7, e_at8, e_at9, e_atm, e_V, e_retV, e_unp, e_app, e_store, e_fzE, oS, rsO_some, Rs.bind_ok, Rs.bind_no, Rs.out_ok, Out.then_nx, Out.then_rt, Out.then_ct, Out.then_bk, fin_rt, fin_nx, List.getElem?_cons_zero, List.getElem?_cons_succ, List.set_cons_succ, List.set_cons_zero, List.length_cons, List.length_nil, Nat.reduceAdd, Nat.reduceLT, Nat.reduceLeDiff, Nat.reduceEqDiff, if_true, if_false, Bool.false_eq_true, Bool.not_true, Bool.not_false, and_self, true_and, and_true, List.map_cons, List.map_nil, Option.map_some, sh_int, sh_bool, sh_none, sh_tup, sh_lst, eqv_int, reduceIte, Option.bind_some, Option.bind_none, kitB_ll, kitB_lt, kitB_tt, kitB_tl, kitB_ii, tyD_list, tyD_int, Bool.true_and, Bool.false_and, Bool.and_true, Bool.and_false, Bool.or_true, Bool.true_or, Bool.false_or, Bool.or_false, Bool.and_self, Bool.or_self, e_cAK, List.append_nil, List.nil_append, List.cons_append, e_andB, e_orB, e_andR, e_orR, tyD_tuple, eqv_bool, eqv_none, tyD_bool, tyD_str, tyD_none, kitB_bb, kitB_nb, kitB_bi, kitB_ib, kitB_nl, kitB_nt, beq_self_eq_true, c1, c2', s1, s2, s3, s4, c3, c4, sd, Src.str, if_pos hw, decide_true, decide_false, Int.natCast_zero]
    simp (config := {decide := true}) only [e_nil, e_seq, e_fz, e_bk, e_ct, e_ret, e_retN, e_drop, e_set, e_if, e_for, e_cC, e_c2, e_c1, e_cA, e_aN, e_aC, e_cB, e_asB, e_bNot, e_bAnd, e_bOr, e_vAnd, e_vOr, e_vNot, e_vIf, e_bYes, e_iL, e_iT, e_iLb, e_iR, e_gL1, e_gL2, e_gL3, e_gT, e_gLb1, e_gLb2, e_gLb3, e_gLb4, e_nb1, e_nb2, e_bor1, e_bor2, e_bor3, e_bor4, e_arg1, e_arg2, e_arg3, e_arg4, e_putd, e_puto, e_toD1, e_toD2, e_allD0, e_allD1, e_allD2, e_gTupl, e_gList, e_tgnm, e_tgtp, e_tg0, e_tg1, e_sq1, e_sq2, e_sq3, e_sq4, e_sq5, e_qv2, e_qv3, e_qv4, e_qv5, e_data1, e_data2, e_data3, e_okI, e_okB, e_i2, e_sub, e_mul, e_mod, e_div, e_pow, e_lt, e_le, e_gt, e_ge, e_neg, e_addI, e_addS, e_addT, e_addL1, e_addL2, e_addL3, e_addL4, e_addL5, e_addL6, e_addL7, e_addL8, e_addL9, e_eq, e_ne, e_in, e_notIn, e_inT, e_inT2, e_inL1, e_inL2, e_inL3, e_is, e_isNot, e_isN1, e_isN2, e_isN3, e_isN4, e_isN5, e_isN6, e_isN7, e_ixT, e_ixL, e_ixO, e_ixB, e_ixSc, e_lenT, e_lenL, e_lenO, e_lenB, e_lenSc, e_lenS, e_tupT, e_tupL, e_tupO, e_tupB, e_lisT, e_lisL, e_lisO, e_lisB, e_min2, e_max2, e_any, e_all, e_sum, e_sorted, e_rev, e_sl, e_oN, e_isi, e_lc, e_wipe0, e_wipe1, e_iA, e_iAb, e_gAq1, e_gAq2, e_gAq3, e_gAqb1, e_gAqb2, e_gAqb3, e_gAqb4, e_no, e_cCh, e_cChI, e_aug, e_decT, e_decF, e_cDispS, e_cDT, e_cDK, e_cDisp1, e_storeA, e_stR1, e_stR2, e_stR3, e_sd1, e_keyD1, e_keyD2, e_keyTD, e_intsD, e_intsD0, e_borT, e_borT2, e_borK, e_borK2, e_argT, e_argT2, e_argK, e_argK2, e_nbT, e_nbK, e_putT, e_putK, e_gAt1, e_gAt2, e_gAt3, e_gAt4, e_gGetDK, e_gGetDT, e_gIxD, e_gInD, e_gNotInD, e_cGet1, e_cGet2, e_dk1, e_dk2, e_dk3, e_dk4, e_dt1, e_dt2, e_del, atI_zero, e_at1, e_at2, e_at3, e_at4, e_at5, e_at6, e_at7, e_at8, e_at9, e_atm, e_V, e_retV, e_unp, e_app, e_store, e_fzE, oS, rsO_some, Rs.bind_ok, Rs.bind_no, Rs.out_ok, Out.then_nx, Out.then_rt, Out.then_ct, Out.then_bk, fin_rt, fin_nx, List.getElem?_cons_zero, List.getElem?_cons_succ, List.set_cons_succ, List.set_cons_zero, List.length_cons, List.length_nil, Nat.reduceAdd, Nat.reduceLT, Nat.reduceLeDiff, Nat.reduceEqDiff, if_true, if_false, Bool.false_eq_true, Bool.not_true, Bool.not_false, and_self, true_and, and_true, List.map_cons, List.map_nil, Option.map_some, sh_int, sh_bool, sh_none, sh_tup, sh_lst, eqv_int, reduceIte, Option.bind_some, Option.bind_none, kitB_ll, kitB_lt, kitB_tt, kitB_tl, kitB_ii, tyD_list, tyD_int, Bool.true_and, Bool.false_and, Bool.and_true, Bool.and_false, Bool.or_true, Bool.true_or, Bool.false_or, Bool.or_false, Bool.and_self, Bool.or_self, e_cAK, List.append_nil, List.nil_append, List.cons_append, e_andB, e_orB, e_andR, e_orR, tyD_tuple, eqv_bool, eqv_none, tyD_bool, tyD_str, tyD_none, kitB_bb, kitB_nb, kitB_bi, kitB_ib, kitB_nl, kitB_nt, beq_self_eq_true, c3, s3, s4, if_pos hw]
  · by_cases k1 : kind = 1
    · subst k1
      have sd : srcD n m reg 1 num = .c (num % m) := rfl
      simp only [e_nil, e_seq, e_fz, e_bk, e_ct, e_ret, e_retN, e_drop, e_set, e_if, e_for, e_cC, e_c2, e_c1, e_cA, e_aN, e_aC, e_cB, e_asB, e_bNot, e_bAnd, e_bOr, e_vAnd, e_vOr, e_vNot, e_vIf, e_bYes, e_iL, e_iT, e_iLb, e_iR, e_gL1, e_gL2, e_gL3, e_gT, e_gLb1, e_gLb2, e_gLb3, e_gLb4, e_nb1, e_nb2, e_bor1, e_bor2, e_bor3, e_bor4, e_arg1, e_arg2, e_arg3, e_arg4, e_putd, e_puto, e_toD1, e_toD2, e_allD0, e_allD1, e_allD2, e_gTupl, e_gList, e_tgnm, e_tgtp, e_tg0, e_tg1, e_sq1, e_sq2, e_sq3, e_sq4, e_sq5, e_qv2, e_qv3, e_qv4, e_qv5, e_data1, e_data2, e_data3, e_okI, e_okB, e_i2, e_sub, e_mul, e_mod, e_div, e_pow, e_lt, e_le, e_gt, e_ge, e_neg, e_addI, e_addS, e_addT, e_addL1, e_addL2, e_addL3, e_addL4, e_addL5, e_addL6, e_addL7, e_addL8, e_addL9, e_eq, e_ne, e_in, e_notIn, e_inT, e_inT2, e_inL1, e_inL2, e_inL3, e_is, e_isNot, e_isN1, e_isN2, e_isN3, e_isN4, e_isN5, e_isN6, e_isN7, e_ixT, e_ixL, e_ixO, e_ixB, e_ixSc, e_lenT, e_lenL, e_lenO, e_lenB, e_lenSc, e_lenS, e_tupT, e_tupL, e_tupO, e_tupB, e_lisT, e_lisL, e_lisO, e_lisB, e_min2, e_max2, e_any, e_all, e_sum, e_sorted, e_rev, e_sl, e_oN, e_isi, e_lc, e_wipe0, e_wipe1, e_iA, e_iAb, e_gAq1, e_gAq2, e_gAq3, e_gAqb1, e_gAqb2, e_gAqb3, e_gAqb4, e_no, e_cCh, e_cChI, e_aug, e_decT, e_decF, e_cDispS, e_cDT, e_cDK, e_cDisp1, e_storeA, e_stR1, e_stR2, e_stR3, e_sd1, e_keyD1, e_keyD2, e_keyTD, e_intsD, e_intsD0, e_borT, e_borT2, e_borK, e_borK2, e_argT, e_argT2, e_argK, e_argK2, e_nbT, e_nbK, e_putT, e_putK, e_gAt1, e_gAt2, e_gAt3, e_gAt4, e_gGetDK, e_gGetDT, e_gIxD, e_gInD, e_gNotInD, e_cGet1, e_cGet2, e_dk1, e_dk2, e_dk3, e_dk4, e_dt1, e_dt2, e_del, atI_zero, e_at1, e_at2, e_at3, e_at4, e_at5, e_at6, e_at7, e_at8, e_at9, e_atm, e_V, e_retV, e_unp, e_app, e_store, e_fzE, oS, rsO_some, Rs.bind_ok, Rs.bind_no, Rs.out_ok, Out.then_nx, Out.then_rt, Out.then_ct, Out.then_bk, fin_rt, fin_nx, List.getElem?_cons_zero, List.getElem?_cons_succ, List.set_cons_succ, List.set_cons_zero, List.length_cons, List.length_nil, Nat.reduceAdd, Nat.reduceLT, Nat.reduceLeDiff, Nat.reduceEqDiff, if_true, if_false, Bool.false_eq_true, Bool.not_true, Bool.not_false, and_self, true_and, and_true, List.map_cons, List.map_nil, Option.map_some, sh_int, sh_bool, sh_none, sh_tup, sh_lst, eqv_int, reduceIte, Option.bind_some, Option.bind_none, kitB_ll, kitB_lt, kitB_tt, kitB_tl, kitB_ii, tyD_list, tyD_int, Bool.true_and, Bool.false_and, Bool.and_true, Bool.and_false, Bool.or_true, Bool.true_or, Bool.false_or, Bool.or_false, Bool.and_self, Bool.or_self, e_cAK, List.append_nil, List.nil_append, List.cons_append, e_andB, e_orB, e_andR, e_orR, tyD_tuple, eqv_bool, eqv_none, tyD_bool, tyD_str, tyD_none, kitB_bb, kitB_nb, kitB_bi, kitB_ib, kitB_nl, kitB_nt, beq_self_eq_true, c1, c2', s1, s2, s3, s4, c3, c4, sd, Src.str, if_pos hw, decide_true, decide_false]
      simp (config := {decide := true}) only [e_nil, e_seq, e_fz, e_bk, e_ct, e_ret, e_retN, e_drop, e_set, e_if, e_for, e_cC, e_c2, e_c1, e_cA, e_aN, e_aC, e_cB, e_asB, e_bNot, e_bAnd, e_bOr, e_vAnd, e_vOr, e_vNot, e_vIf, e_bYes, e_iL, e_iT, e_iLb, e_iR, e_gL1, e_gL2, e_gL3, e_gT, e_gLb1, e_gLb2, e_gLb3, e_gLb4, e_nb1, e_nb2, e_bor1, e_bor2, e_bor3, e_bor4, e_arg1, e_arg2, e_arg3, e_arg4, e_putd, e_puto, e_toD1, e_toD2, e_allD0, e_allD1, e_allD2, e_gTupl, e_gList, e_tgnm, e_tgtp, e_tg0, e_tg1, e_sq1, e_sq2, e_sq3, e_sq4, e_sq5, e_qv2, e_qv3, e_qv4, e_qv5, e_data1, e_data2, e_data3, e_okI, e_okB, e_i2, e_sub, e_mul, e_mod, e_div, e_pow, e_lt, e_le, e_gt, e_ge, e_neg, e_addI, e_addS, e_addT, e_addL1, e_addL2, e_addL3, e_addL4, e_addL5, e_addL6, e_addL7, e_addL8, e_addL9, e_eq, e_ne, e_in, e_notIn, e_inT, e_inT2, e_inL1, e_inL2, e_inL3, e_is, e_isNot, e_isN1, e_isN2, e_isN3, e_isN4, e_isN5, e_isN6, e_isN7, e_ixT, e_ixL, e_ixO, e_ixB, e_ixSc, e_lenT, e_lenL, e_lenO, e_lenB, e_lenSc, e_lenS, e_tupT, e_tupL, e_tupO, e_tupB, e_lisT, e_lisL, e_lisO, e_lisB, e_min2, e_max2, e_any, e_all, e_sum, e_sorted, e_rev, e_sl, e_oN, e_isi, e_lc, e_wipe0, e_wipe1, e_iA, e_iAb, e_gAq1, e_gAq2, e_gAq3, e_gAqb1, e_gAqb2, e_gAqb3, e_gAqb4, e_no, e_cCh, e_cChI, e_aug, e_decT, e_decF, e_cDispS, e_cDT, e_cDK, e_cDisp1, e_storeA, e_stR1, e_stR2, e_stR3, e_sd1, e_keyD1, e_keyD2, e_keyTD, e_intsD, e_intsD0, e_borT, e_borT2, e_borK, e_borK2, e_argT, e_argT2, e_argK, e_argK2, e_nbT, e_nbK, e_putT, e_putK, e_gAt1, e_gAt2, e_gAt3, e_gAt4, e_gGetDK, e_gGetDT, e_gIxD, e_gInD, e_gNotInD, e_cGet1, e_cGet2, e_dk1, e_dk2, e_dk3, e_dk4, e_dt1, e_dt2, e_del, atI_zero, e_at1, e_at2, e_at3, e_at4, e_at5, e_at6, e_at7, e_at8, e_at9, e_atm, e_V, e_retV, e_unp, e_app, e_store, e_fzE, oS, rsO_some, Rs.bind_ok, Rs.bind_no, Rs.out_ok, Out.then_nx, Out.then_rt, Out.then_ct, Out.then_bk, fin_rt, fin_nx, List.getElem?_cons_zero, List.getElem?_cons_succ, List.set_cons_succ, List.set_cons_zero, List.length_cons, List.length_nil, Nat.reduceAdd, Nat.reduceLT, Nat.reduceLeDiff, Nat.reduceEqDiff, if_true, if_false, Bool.false_eq_true, Bool.not_true, Bool.not_false, and_self, true_and, and_true, List.map_cons, List.map_nil, Option.map_some, sh_int, sh_bool, sh_none, sh_tup, sh_lst, eqv_int, reduceIte, Option.bind_some, Option.bind_none, kitB_ll, kitB_lt, kitB_tt, kitB_tl, kitB_ii, tyD_list, tyD_int, Bool.true_and, Bool.false_and, Bool.and_true, Bool.and_false, Bool.or_true, Bool.true_or, Bool.false_or, Bool.or_false, Bool.and_self, Bool.or_self, e_cAK, List.append_nil, List.nil_append, List.cons_append, e_andB, e_orB, e_andR, e_orR, tyD_tuple, eqv_bool, eqv_none, tyD_bool, tyD_str, tyD_none, kitB_bb, kitB_nb, kitB_bi, kitB_ib, kitB_nl, kitB_nt, beq_self_eq_true, c3, c4, s5, if_pos hw]
    · have sd : srcD n m reg kind num = .r ((reg + 1 + num % 7) % 8) := by simp [srcD, k0, k1]
      have z0 : ¬ (kind : Int) = 0 := by omega
      have z1 : ¬ (kind : Int) = 1 := by omega
      simp only [e_nil, e_seq, e_fz, e_bk, e_ct, e_ret, e_retN, e_drop, e_set, e_if, e_for, e_cC, e_c2, e_c1, e_cA, e_aN, e_aC, e_cB, e_asB, e_bNot, e_bAnd, e_bOr, e_vAnd, e_vOr, e_vNot, e_vIf, e_bYes, e_iL, e_iT, e_iLb, e_iR, e_gL1, e_gL2, e_gL3, e_gT, e_gLb1, e_gLb2, e_gLb3, e_gLb4, e_nb1, e_nb2, e_bor1, e_bor2, e_bor3, e_bor4, e_arg1, e_arg2, e_arg3, e_arg4, e_putd, e_puto, e_toD1, e_toD2, e_allD0, e_allD1, e_allD2, e_gTupl, e_gList, e_tgnm, e_tgtp, e_tg0, e_tg1, e_sq1, e_sq2, e_sq3, e_sq4, e_sq5, e_qv2, e_qv3, e_qv4, e_qv5, e_data1, e_data2, e_data3, e_okI, e_okB, e_i2, e_sub, e_mul, e_mod, e_div, e_pow, e_lt, e_le, e_gt, e_ge, e_neg, e_addI, e_addS, e_addT, e_addL1, e_addL2, e_addL3, e_addL4, e_addL5, e_addL6, e_addL7, e_addL8, e_addL9, e_eq, e_ne, e_in, e_notIn, e_inT, e_inT2, e_inL1, e_inL2, e_inL3, e_is, e_isNot, e_isN1, e_isN2, e_isN3, e_isN4, e_isN5, e_isN6, e_isN7, e_ixT, e_ixL, e_ixO, e_ixB, e_ixSc, e_lenT, e_lenL, e_lenO, e_lenB, e_lenSc, e_lenS, e_tupT, e_tupL, e_tupO, e_tupB, e_lisT, e_lisL, e_lisO, e_lisB, e_min2, e_max2, e_any, e_all, e_sum, e_sorted, e_rev, e_sl, e_oN, e_isi, e_lc, e_wipe0, e_wipe1, e_iA, e_iAb, e_gAq1, e_gAq2, e_gAq3, e_gAqb1, e_gAqb2, e_gAqb3, e_gAqb4, e_no, e_cCh, e_cChI, e_aug, e_decT, e_decF, e_cDispS, e_cDT, e_cDK, e_cDisp1, e_storeA, e_stR1, e_stR2, e_stR3, e_sd1, e_keyD1, e_keyD2, e_keyTD, e_intsD, e_intsD0, e_borT, e_borT2, e_borK, e_borK2, e_argT, e_argT2, e_argK, e_argK2, e_nbT, e_nbK, e_putT, e_putK, e_gAt1, e_gAt2, e_gAt3, e_gAt4, e_gGetDK, e_gGetDT, e_gIxD, e_gInD, e_gNotInD, e_cGet1, e_cGet2, e_dk1, e_dk2, e_dk3, e_dk4, e_dt1, e_dt2, e_del, atI_zero, e_at1, e_at2, e_at3, e_at4, e_at5, e_at6, e_at7, e_at8, e_at9, e_atm, e_V, e_retV, e_unp, e_app, e_store, e_fzE, oS, rsO_some, Rs.bind_ok, Rs.bind_no, Rs.out_ok, Out.then_nx, Out.then_rt, Out.then_ct, Out.then_bk, fin_rt, fin_nx, List.getElem?_cons_zero, List.getElem?_cons_succ, List.set_cons_succ, List.set_cons_zero, List.length_cons, List.length_nil, Nat.reduceAdd, Nat.reduceLT, Nat.reduceLeDiff, Nat.reduceEqDiff, if_true, if_false, Bool.false_eq_true, Bool.not_true, Bool.not_false, and_self, true_and, and_true, List.map_cons, List.map_nil, Option.map_some, sh_int, sh_bool, sh_none, sh_tup, sh_lst, eqv_int, reduceIte, Option.bind_some, Option.bind_none, kitB_ll, kitB_lt, kitB_tt, kitB_tl, kitB_ii, tyD_list, tyD_int, Bool.true_and, Bool.false_and, Bool.and_true, Bool.and_false, Bool.or_true, Bool.true_or, Bool.false_or, Bool.or_false, Bool.and_self, Bool.or_self, e_cAK, List.append_nil, List.nil_append, List.cons_append, e_andB, e_orB, e_andR, e_orR, tyD_tuple, eqv_bool, eqv_none, tyD_bool, tyD_str, tyD_none, kitB_bb, kitB_nb, kitB_bi, kitB_ib, kitB_nl, kitB_nt, beq_self_eq_true, c1, c2', s1, s2, s3, s4, c3, c4, sd, Src.str, if_pos hw, decide_eq_false z0, decide_eq_false z1]
theorem flat_row {α : Type} (row : List α) : ∀ (most j i : Nat), j < most → i < row.length → ((List.replicate most row).flatten)[row.length * j + i]? = row[i]?
  | 0, _, _, h, _ => absurd h (Nat.not_lt_zero _)
  | most + 1, 0, i, _, hi => by
    rw [List.replicate_succ, List.flatten_cons, Nat.mul_zero, Nat.zero_add, List.getElem?_append_left hi]
  | most + 1, j + 1, i, h, hi => by
    rw [List.replicate_succ, List.flatten_cons, List.getElem?_append_right (by rw [Nat.mul_succ]; omega), show row.length * (j + 1) + i - row.length = row.length * j + i by rw [Nat.mul_succ]; omega]
    exact flat_row row most j i (by omega) hi
theorem flat_len {α : Type} (row : List α) : ∀ n : Nat, ((List.replicate n row).flatten).length = n * row.length
  | 0 => by simp
  | n + 1 => by rw [List.replicate_succ, List.flatten_cons, List.length_append, flat_len row n, Nat.add_mul]; omega
theorem flat_map {α β : Type} (f : α → β) (row : List α) : ∀ n : Nat, (List.replicate n (row.map f)).flatten = ((List.replicate n row).flatten).map f
  | 0 => rfl
  | n + 1 => by rw [List.replicate_succ, List.flatten_cons, flat_map f row n, List.replicate_succ, List.flatten_cons, List.map_append]
/-- the sizes of code at random -/
def rowR : List Nat := [8, 2, 3, 3, 13, 3, 13]
def szR (most : Nat) : List Nat := [most] ++ (List.replicate most rowR).flatten
theorem szR_len (most : Nat) : (szR most).length = 1 + most * 7 := by
  rw [szR, List.length_append, flat_len]; rfl
theorem szR_row (most j i : Nat) (hj : j < most) (hi : i < 7) : (szR most)[1 + 7 * j + i]? = rowR[i]? := by
  rw [szR, List.getElem?_append_right (by simp; omega), show 1 + 7 * j + i - [most].length = rowR.length * j + i by simp [rowR]; omega]
  exact flat_row rowR most j i hj hi
theorem szR_ok (most : Nat) (h : 0 < most) (h2 : most < 1000000) : ∀ s ∈ szR most, 0 < s ∧ s < 1000000 := by
  intro s hs
  rw [szR, List.mem_append] at hs
  rcases hs with hs | hs
  · rw [List.mem_singleton.mp hs]; omega
  · obtain ⟨l, hl, h3⟩ := List.mem_flatten.mp hs
    rw [List.eq_of_mem_replicate hl] at h3
    simp [rowR] at h3
    omega
def insR (m n r0 r1 r2 r3 r4 r5 r6 : Nat) : Ins := ⟨r0, decide (r1 = 1), opN r2, srcD n m r0 r3 r4, srcD n m r0 r5 r6⟩
theorem code_step (e0 e1 e3 : Option RV) (m n : Nat) (st out : PyData) (hm : 0 < m) (hm2 : m ≤ 1000) (hn : 0 < n) (hn2 : n ≤ 10) (nd : List Nat) (cs : List Ins) (most j : Nat) (hl : nd.length = (szR most).length) (hj : j < most) (hm3 : most ≤ 100) (hc : cs.length ≤ 1000)
    (hb : ∀ (i s : Nat), (szR most)[i]? = some s → ∃ d, nd[i]? = some d ∧ d < s) (e7 e8 e9 e10 e11 : Option RV) :
    ∃ (i : Ins) (e7' e8' e9' e10' e11' : Option RV), i.good n m ∧ L1__law_random [e0, e1, some (.d (progD m n st out)), e3, some (.ol (cs.map Ins.d)), some (.ol (nd.map natI)), some (.d (.int j)), e7, e8, e9, e10, e11]
     = .nx [e0, e1, some (.d (progD m n st out)), e3, some (.ol ((cs ++ [i]).map Ins.d)), some (.ol (nd.map natI)), some (.d (.int j)), e7', e8', e9', e10', e11'] := by
  rw [szR_len] at hl
  have hR := fun i hi => hb _ _ (show (szR most)[1 + 7 * j + i]? = some (rowR[i]'(hi)) by rw [szR_row most j i hj hi]; simp)
  obtain ⟨r0, q0, b0⟩ := hR 0 (by decide)
  obtain ⟨r1, q1, b1⟩ := hR 1 (by decide)
  obtain ⟨r2, q2, b2⟩ := hR 2 (by decide)
  obtain ⟨r3, q3, b3⟩ := hR 3 (by decide)
  obtain ⟨r4, q4, b4⟩ := hR 4 (by decide)
  obtain ⟨r5, q5, b5⟩ := hR 5 (by decide)
  obtain ⟨r6, q6, b6⟩ := hR 6 (by decide)
  have b0 : r0 < 8 := b0
  rw [Nat.add_zero] at q0
  have hrow : gSl (.bl (nd.map natI)) (some (1 + 7 * (j : Int))) (some (8 + 7 * (j : Int))) = .ok (.ol [.int r0, .int r1, .int r2, .int r3, .int r4, .int r5, .int r6]) := by
    have := cut_rowN nd (1 + 7 * j) (8 + 7 * j) (by omega) (by omega)
    rw [show 8 + 7 * j - (1 + 7 * j) = 7 by omega, take7 q0 q1 q2 q3 q4 q5 q6] at this
    simpa [natI] using this
  have mulOk : (7 : Int).natAbs < 18446744073709551616 ∨ ((j : Int)).natAbs < 18446744073709551616 := .inl (by decide)
  have g : (insR m n r0 r1 r2 r3 r4 r5 r6).good n m := ⟨b0, srcD_good hn hm b0, srcD_good hn hm b0⟩
  have hop := ops_ix r2 b2
  have hsg := sgn_ix r1 b1
  have w1 := fun e11 => word_step e0 e1 e3 (some (.ol (cs.map Ins.d))) (some (.ol (nd.map natI))) (some (.d (.int j))) e11 m n st out hm hm2 hn hn2 [.int r1, .int r2, .int r3, .int r4, .int r5, .int r6] [] r0 r3 r4 b0 (by simp)
  have w2 := fun e11 => word_step e0 e1 e3 (some (.ol (cs.map Ins.d))) (some (.ol (nd.map natI))) (some (.d (.int j))) e11 m n st out hm hm2 hn hn2 [.int r1, .int r2, .int r3, .int r4, .int r5, .int r6] [.str (srcD n m r0 r3 r4).str] r0 r5 r6 b0 (by simp)
  have hz : cs.length ≤ 1000000 := by omega
  have lp : ∀ e9 e10 e11 : Option RV, loopF (.tp [9, 10]) L0__law_random [.tuple [.int r3, .int r4], .tuple [.int r5, .int r6]] [e0, e1, some (.d (progD m n st out)), e3, some (.ol (cs.map Ins.d)), some (.ol (nd.map natI)), some (.d (.int j)), some (.ol [.int r0, .int r1, .int r2, .int r3, .int r4, .int r5, .int r6]), some (.ol []), e9, e10, e11]
      = .nx [e0, e1, some (.d (progD m n st out)), e3, some (.ol (cs.map Ins.d)), some (.ol (nd.map natI)), some (.d (.int j)), some (.ol [.int r0, .int r1, .int r2, .int r3, .int r4, .int r5, .int r6]), some (.ol [.str (srcD n m r0 r3 r4).str, .str (srcD n m r0 r5 r6).str]), some (.d (.int r5)), some (.d (.int r6)), some (.d (.str (srcD n m r0 r5 r6).str))] := by
    intro e9 e10 e11
    simp only [loopF_cons, e_nil, e_seq, e_fz, e_bk, e_ct, e_ret, e_retN, e_drop, e_set, e_if, e_for, e_cC, e_c2, e_c1, e_cA, e_aN, e_aC, e_cB, e_asB, e_bNot, e_bAnd, e_bOr, e_vAnd, e_vOr, e_vNot, e_vIf, e_bYes, e_iL, e_iT, e_iLb, e_iR, e_gL1, e_gL2, e_gL3, e_gT, e_gLb1, e_gLb2, e_gLb3, e_gLb4, e_nb1, e_nb2, e_bor1, e_bor2, e_bor3, e_bor4, e_arg1, e_arg2, e_arg3, e_arg4, e_putd, e_puto, e_toD1, e_toD2, e_allD0, e_allD1, e_allD2, e_gTupl, e_gList, e_tgnm, e_tgtp, e_tg0, e_tg1, e_sq1, e_sq2, e_sq3, e_sq4, e_sq5, e_qv2, e_qv3, e_qv4, e_qv5, e_data1, e_data2, e_data3, e_okI, e_okB, e_i2, e_sub, e_mul, e_mod, e_div, e_pow, e_lt, e_le, e_gt, e_ge, e_neg, e_addI, e_addS, e_addT, e_addL1, e_addL2, e_addL3, e_addL4, e_addL5, e_addL6, e_addL7, e_addL8, e_addL9, e_eq, e_ne, e_in, e_notIn, e_inT, e_inT2, e_inL1, e_inL2, e_inL3, e_is, e_isNot, e_isN1, e_isN2, e_isN3, e_isN4, e_isN5, e_isN6, e_isN7, e_ixT, e_ixL, e_ixO, e_ixB, e_ixSc, e_lenT, e_lenL, e_lenO, e_lenB, e_lenSc, e_lenS, e_tupT, e_tupL, e_tupO, e_tupB, e_lisT, e_lisL, e_lisO, e_lisB, e_min2, e_max2, e_any, e_all, e_sum, e_sorted, e_rev, e_sl, e_oN, e_isi, e_lc, e_wipe0, e_wipe1, e_iA, e_iAb, e_gAq1, e_gAq2, e_gAq3, e_gAqb1, e_gAqb2, e_gAqb3, e_gAqb4, e_no, e_cCh, e_cChI, e_aug, e_decT, e_decF, e_cDispS, e_cDT, e_cDK, e_cDisp1, e_storeA, e_stR1, e_stR2, e_stR3, e_sd1, e_keyD1, e_keyD2, e_keyTD, e_intsD, e_intsD0, e_borT, e_borT2, e_borK, e_borK2, e_argT, e_argT2, e_argK, e_argK2, e_nbT, e_nbK, e_putT, e_putK, e_gAt1, e_gAt2, e_gAt3, e_gAt4, e_gGetDK, e_gGetDT, e_gIxD, e_gInD, e_gNotInD, e_cGet1, e_cGet2, e_dk1, e_dk2, e_dk3, e_dk4, e_dt1, e_dt2, e_del, atI_zero, e_at1, e_at2, e_at3, e_at4, e_at5, e_at6, e_at7, e_at8, e_at9, e_atm, e_V, e_retV, e_unp, e_app, e_store, e_fzE, oS, rsO_some, Rs.bind_ok, Rs.bind_no, Rs.out_ok, Out.then_nx, Out.then_rt, Out.then_ct, Out.then_bk, fin_rt, fin_nx, List.getElem?_cons_zero, List.getElem?_cons_succ, List.set_cons_succ, List.set_cons_zero, List.length_cons, List.length_nil, Nat.reduceAdd, Nat.reduceLT, Nat.reduceLeDiff, Nat.reduceEqDiff, if_true, if_false, Bool.false_eq_true, Bool.not_true, Bool.not_false, and_self, true_and, and_true, List.map_cons, List.map_nil, Option.map_some, sh_int, sh_bool, sh_none, sh_tup, sh_lst, eqv_int, reduceIte, Option.bind_some, Option.bind_none, kitB_ll, kitB_lt, kitB_tt, kitB_tl, kitB_ii, tyD_list, tyD_int, Bool.true_and, Bool.false_and, Bool.and_true, Bool.and_false, Bool.or_true, Bool.true_or, Bool.false_or, Bool.or_false, Bool.and_self, Bool.or_self, e_cAK, List.append_nil, List.nil_append, List.cons_append, e_andB, e_orB, e_andR, e_orR, tyD_tuple, eqv_bool, eqv_none, tyD_bool, tyD_str, tyD_none, kitB_bb, kitB_nb, kitB_bi, kitB_ib, kitB_nl, kitB_nt, beq_self_eq_true, w1, w2, lp_nx, loopF_nil, List.nil_append, List.cons_append]
  have hneg : (if decide (r1 = 1) = true then ("-" : Str) else "+") = (insR m n r0 r1 r2 r3 r4 r5 r6).sgn := rfl
  refine ⟨insR m n r0 r1 r2 r3 r4 r5 r6, ?_⟩
  generalize hX : L1__law_random _ = X
  unfold L1__law_random at hX
  simp only [e_nil, e_seq, e_fz, e_bk, e_ct, e_ret, e_retN, e_drop, e_set, e_if, e_for, e_cC, e_c2, e_c1, e_cA, e_aN, e_aC, e_cB, e_asB, e_bNot, e_bAnd, e_bOr, e_vAnd, e_vOr, e_vNot, e_vIf, e_bYes, e_iL, e_iT, e_iLb, e_iR, e_gL1, e_gL2, e_gL3, e_gT, e_gLb1, e_gLb2, e_gLb3, e_gLb4, e_nb1, e_nb2, e_bor1, e_bor2, e_bor3, e_bor4, e_arg1, e_arg2, e_arg3, e_arg4, e_putd, e_puto, e_toD1, e_toD2, e_allD0, e_allD1, e_allD2, e_gTupl, e_gList, e_tgnm, e_tgtp, e_tg0, e_tg1, e_sq1, e_sq2, e_sq3, e_sq4, e_sq5, e_qv2, e_qv3, e_qv4, e_qv5, e_data1, e_data2, e_data3, e_okI, e_okB, e_i2, e_sub, e_mul, e_mod, e_div, e_pow, e_lt, e_le, e_gt, e_ge, e_neg, e_addI, e_addS, e_addT, e_addL1, e_addL2, e_addL3, e_addL4, e_addL5, e_addL6, e_addL7, e_addL8, e_addL9, e_eq, e_ne, e_in, e_notIn, e_inT, e_inT2, e_inL1, e_inL2, e_inL3, e_is, e_isNot, e_isN1, e_isN2, e_isN3, e_isN4, e_isN5, e_isN6, e_isN7, e_ixT, e_ixL, e_ixO, e_ixB, e_ixSc, e_lenT, e_lenL, e_lenO, e_lenB, e_lenSc, e_lenS, e_tupT, e_tupL, e_tupO, e_tupB, e_lisT, e_lisL, e_lisO, e_lisB, e_min2, e_max2, e_any, e_all, e_sum, e_sorted, e_rev, e_sl, e_oN, e_isi, e_lc, e_wipe0, e_wipe1, e_iA, e_iAb, e_gAq1, e_gAq2, e_gAq3, e_gAqb1, e_gAqb2, e_gAqb3, e_gAqb4, e_no, e_cCh, e_cChI, e_aug, e_decT, e_decF, e_cDispS, e_cDT, e_cDK, e_cDisp1, e_storeA, e_stR1, e_stR2, e_stR3, e_sd1, e_keyD1, e_keyD2, e_keyTD, e_intsD, e_intsD0, e_borT, e_borT2, e_borK, e_borK2, e_argT, e_argT2, e_argK, e_argK2, e_nbT, e_nbK, e_putT, e_putK, e_gAt1, e_gAt2, e_gAt3, e_gAt4, e_gGetDK, e_gGetDT, e_gIxD, e_gInD, e_gNotInD, e_cGet1, e_cGet2, e_dk1, e_dk2, e_dk3, e_dk4, e_dt1, e_dt2, e_del, atI_zero, e_at1, e_at2, e_at3, e_at4, e_at5, e_at6, e_at7, e_at8, e_at9, e_atm, e_V, e_retV, e_unp, e_app, e_store, e_fzE, oS, rsO_some, Rs.bind_ok, Rs.bind_no, Rs.out_ok, Out.then_nx, Out.then_rt, Out.then_ct, Out.then_bk, fin_rt, fin_nx, List.getElem?_cons_zero, List.getElem?_cons_succ, List.set_cons_succ, List.set_cons_zero, List.length_cons, List.length_nil, Nat.reduceAdd, Nat.reduceLT, Nat.reduceLeDiff, Nat.reduceEqDiff, if_true, if_false, Bool.false_eq_true, Bool.not_true, Bool.not_false, and_self, true_and, and_true, List.map_cons, List.map_nil, Option.map_some, sh_int, sh_bool, sh_none, sh_tup, sh_lst, eqv_int, reduceIte, Option.bind_some, Option.bind_none, kitB_ll, kitB_lt, kitB_tt, kitB_tl, kitB_ii, tyD_list, tyD_int, Bool.true_and, Bool.false_and, Bool.and_true, Bool.and_false, Bool.or_true, Bool.true_or, Bool.false_or, Bool.or_false, Bool.and_self, Bool.or_self, e_cAK, List.append_nil, List.nil_append, List.cons_append, e_andB, e_orB, e_andR, e_orR, tyD_tuple, eqv_bool, eqv_none, tyD_bool, tyD_str, tyD_none, kitB_bb, kitB_nb, kitB_bi, kitB_ib, kitB_nl, kitB_nt, beq_self_eq_true, if_pos mulOk, hrow, lp, hop, hsg, List.length_map, if_pos hz] at hX
  subst hX
  rw [List.map_append]
  exact ⟨_, _, _, _, _, g, rfl⟩
theorem random_ok (ns : List Int) (k most m n : Nat) (st out : PyData) (h1 : 1 ≤ most) (h2 : most ≤ 100) (hm : 0 < m) (hm2 : m ≤ 1000) (hn : 0 < n) (hn2 : n ≤ 10) : ∃ cs : List Ins,
    F__law_random [.sc ns, .d (.int k), .d (progD m n st out), .d (.int most)] = .ok (.ol (cs.map Ins.d)) ∧ (∀ i ∈ cs, i.good n m) ∧ cs.length < most := by
  obtain ⟨nd, e1, hl, hb⟩ := draw_nat ns k (szR most) (szR_ok most h1 (by omega)) (by rw [szR_len]; omega)
  obtain ⟨d0, q0, b0⟩ := hb 0 most rfl
  have a0 : atI (nd.map natI) 0 = some (.int d0) := atI_nats (i := 0) q0
  have hr := e_R1n (n := d0) (by omega)
  rw [rng_nat] at hr
  have r7 : gRep (.ol [PyData.int 8, .int 2, .int 3, .int 3, .int 13, .int 3, .int 13]) (.d (.int most)) = .ok (.ol (((List.replicate most rowR).flatten).map natI)) := by
    rw [e_rep rfl (by omega) (by simp; omega), Int.toNat_natCast, ← flat_map]; rfl
  have t0 : gAdd (RV.ol [.int most]) (.ol (((List.replicate most rowR).flatten).map natI)) = .ok (.ol ((szR most).map natI)) := by
    rw [e_addL1, if_pos (by rw [List.length_map, flat_len]; simp [rowR]; omega), szR, List.map_append]; rfl
  obtain ⟨env', e2, cs, e6, e7, e8, e9, e10, e11, rfl, g, hc⟩ := loopF_ex (tg := .nm 6) (f := L1__law_random) (fun i env => ∃ (cs : List Ins) (e6 e7 e8 e9 e10 e11 : Option RV), env = [some (.sc ns), some (.d (.int k)), some (.d (progD m n st out)), some (.d (.int most)), some (.ol (cs.map Ins.d)), some (.ol (nd.map natI)), e6, e7, e8, e9, e10, e11] ∧ (∀ i ∈ cs, i.good n m) ∧ cs.length = i) natI (List.range d0)
    [some (.sc ns), some (.d (.int k)), some (.d (progD m n st out)), some (.d (.int most)), some (.ol []), some (.ol (nd.map natI)), none, none, none, none, none, none] (by
      rintro i env x hx ⟨cs, e6, e7, e8, e9, e10, e11, rfl, g, hc⟩
      have hi : i < d0 := by simpa using (List.getElem?_eq_some_iff.mp hx).1
      have ex : x = i := by rw [List.getElem?_range hi] at hx; exact (Option.some.inj hx).symm
      subst ex
      obtain ⟨i, e7', e8', e9', e10', e11', gi, e3⟩ := code_step (some (.sc ns)) (some (.d (.int k))) (some (.d (.int most))) m n st out hm hm2 hn hn2 nd cs most x hl (by omega) h2 (by omega) hb e7 e8 e9 e10 e11
      refine ⟨_, rfl, _, .inl e3, cs ++ [i], _, _, _, _, _, _, rfl, fun y hy => ?_, by simp [hc]⟩
      rcases List.mem_append.mp hy with z | z
      · exact g y z
      · rw [List.mem_singleton.mp z]; exact gi) ⟨[], none, none, none, none, none, none, rfl, by simp, rfl⟩
  rw [List.length_range] at hc
  refine ⟨cs, ?_, g, by omega⟩
  show (sSeq _ _ [some (.sc ns), some (.d (.int k)), some (.d (progD m n st out)), some (.d (.int most)), none, none, none, none, none, none, none, none]).fin = _
  simp only [e_nil, e_seq, e_fz, e_bk, e_ct, e_ret, e_retN, e_drop, e_set, e_if, e_for, e_cC, e_c2, e_c1, e_cA, e_aN, e_aC, e_cB, e_asB, e_bNot, e_bAnd, e_bOr, e_vAnd, e_vOr, e_vNot, e_vIf, e_bYes, e_iL, e_iT, e_iLb, e_iR, e_gL1, e_gL2, e_gL3, e_gT, e_gLb1, e_gLb2, e_gLb3, e_gLb4, e_nb1, e_nb2, e_bor1, e_bor2, e_bor3, e_bor4, e_arg1, e_arg2, e_arg3, e_arg4, e_putd, e_puto, e_toD1, e_toD2, e_allD0, e_allD1, e_allD2, e_gTupl, e_gList, e_tgnm, e_tgtp, e_tg0, e_tg1, e_sq1, e_sq2, e_sq3, e_sq4, e_sq5, e_qv2, e_qv3, e_qv4, e_qv5, e_data1, e_data2, e_data3, e_okI, e_okB, e_i2, e_sub, e_mul, e_mod, e_div, e_pow, e_lt, e_le, e_gt, e_ge, e_neg, e_addI, e_addS, e_addT, e_addL1, e_addL2, e_addL3, e_addL4, e_addL5, e_addL6, e_addL7, e_addL8, e_addL9, e_eq, e_ne, e_in, e_notIn, e_inT, e_inT2, e_inL1, e_inL2, e_inL3, e_is, e_isNot, e_isN1, e_isN2, e_isN3, e_isN4, e_isN5, e_isN6, e_isN7, e_ixT, e_ixL, e_ixO, e_ixB, e_ixSc, e_lenT, e_lenL, e_lenO, e_lenB, e_lenSc, e_lenS, e_tupT, e_tupL, e_tupO, e_tupB, e_lisT, e_lisL, e_lisO, e_lisB, e_min2, e_max2, e_any, e_all, e_sum, e_sorted, e_rev, e_sl, e_oN, e_isi, e_lc, e_wipe0, e_wipe1, e_iA, e_iAb, e_gAq1, e_gAq2, e_gAq3, e_gAqb1, e_gAqb2, e_gAqb3, e_gAqb4, e_no, e_cCh, e_cChI, e_aug, e_decT, e_decF, e_cDispS, e_cDT, e_cDK, e_cDisp1, e_storeA, e_stR1, e_stR2, e_stR3, e_sd1, e_keyD1, e_keyD2, e_keyTD, e_intsD, e_intsD0, e_borT, e_borT2, e_borK, e_borK2, e_argT, e_argT2, e_argK, e_argK2, e_nbT, e_nbK, e_putT, e_putK, e_gAt1, e_gAt2, e_gAt3, e_gAt4, e_gGetDK, e_gGetDT, e_gIxD, e_gInD, e_gNotInD, e_cGet1, e_cGet2, e_dk1, e_dk2, e_dk3, e_dk4, e_dt1, e_dt2, e_del, atI_zero, e_at1, e_at2, e_at3, e_at4, e_at5, e_at6, e_at7, e_at8, e_at9, e_atm, e_V, e_retV, e_unp, e_app, e_store, e_fzE, oS, rsO_some, Rs.bind_ok, Rs.bind_no, Rs.out_ok, Out.then_nx, Out.then_rt, Out.then_ct, Out.then_bk, fin_rt, fin_nx, List.getElem?_cons_zero, List.getElem?_cons_succ, List.set_cons_succ, List.set_cons_zero, List.length_cons, List.length_nil, Nat.reduceAdd, Nat.reduceLT, Nat.reduceLeDiff, Nat.reduceEqDiff, if_true, if_false, Bool.false_eq_true, Bool.not_true, Bool.not_false, and_self, true_and, and_true, List.map_cons, List.map_nil, Option.map_some, sh_int, sh_bool, sh_none, sh_tup, sh_lst, eqv_int, reduceIte, Option.bind_some, Option.bind_none, kitB_ll, kitB_lt, kitB_tt, kitB_tl, kitB_ii, tyD_list, tyD_int, Bool.true_and, Bool.false_and, Bool.and_true, Bool.and_false, Bool.or_true, Bool.true_or, Bool.false_or, Bool.or_false, Bool.and_self, Bool.or_self, e_cAK, List.append_nil, List.nil_append, List.cons_append, e_andB, e_orB, e_andR, e_orR, tyD_tuple, eqv_bool, eqv_none, tyD_bool, tyD_str, tyD_none, kitB_bb, kitB_nb, kitB_bi, kitB_ib, kitB_nl, kitB_nt, beq_self_eq_true, r7, t0, e1, a0, hr, e2]
theorem regs_draw (ns : List Int) (k c m : Nat) (hm : 0 < m) (hm2 : m ≤ 1000) (hc : c ≤ 100) : ∃ xs : List Int, F__law_draw [.sc ns, .d (.int k), .d (.list ((List.replicate c m).map natI))] = .ok (.ol (xs.map .int)) ∧ xs.length = c ∧ Regs m xs := by
  obtain ⟨nd, e1, hl, hb⟩ := draw_nat ns k (List.replicate c m) (fun s hs => by rw [List.eq_of_mem_replicate hs]; omega) (by simp; omega)
  rw [List.length_replicate] at hl
  refine ⟨nd.map fun n : Nat => (n : Int), by rw [e1, List.map_map]; rfl, by simpa using hl, ⟨fun x hx => ?_⟩⟩
  obtain ⟨d, hd, rfl⟩ := List.mem_map.mp hx
  obtain ⟨i, hi, rfl⟩ := List.getElem_of_mem hd
  obtain ⟨d, q, b⟩ := hb i m (by rw [List.getElem?_replicate, if_pos (by omega)])
  rw [List.getElem?_eq_getElem hi] at q
  cases q
  omega
theorem rep_ok (c m : Nat) (hc : c ≤ 100) : gRep (.ol [.int (m : Int)]) (.d (.int c)) = .ok (.ol ((List.replicate c m).map natI)) := by
  rw [e_rep rfl (by omega) (by simp; omega), Int.toNat_natCast, ← rep_one]; rfl
theorem inputs_ok (ns : List Int) (k m n : Nat) (st out : PyData) (hm : 0 < m) (hm2 : m ≤ 1000) (hn2 : n ≤ 10) : ∃ xs : List Int,
    F__law_inputs [.sc ns, .d (.int k), .d (progD m n st out)] = .ok (.ol (xs.map .int)) ∧ xs.length = n ∧ Regs m xs := by
  obtain ⟨xs, e1, h1, h2⟩ := regs_draw ns k n m hm hm2 (by omega)
  have hr := rep_ok n m (by omega)
  refine ⟨xs, ?_, h1, h2⟩
  show (sSeq _ _ [some (.sc ns), some (.d (.int k)), some (.d (progD m n st out)), none]).fin = _
  simp only [e_nil, e_seq, e_fz, e_bk, e_ct, e_ret, e_retN, e_drop, e_set, e_if, e_for, e_cC, e_c2, e_c1, e_cA, e_aN, e_aC, e_cB, e_asB, e_bNot, e_bAnd, e_bOr, e_vAnd, e_vOr, e_vNot, e_vIf, e_bYes, e_iL, e_iT, e_iLb, e_iR, e_gL1, e_gL2, e_gL3, e_gT, e_gLb1, e_gLb2, e_gLb3, e_gLb4, e_nb1, e_nb2, e_bor1, e_bor2, e_bor3, e_bor4, e_arg1, e_arg2, e_arg3, e_arg4, e_putd, e_puto, e_toD1, e_toD2, e_allD0, e_allD1, e_allD2, e_gTupl, e_gList, e_tgnm, e_tgtp, e_tg0, e_tg1, e_sq1, e_sq2, e_sq3, e_sq4, e_sq5, e_qv2, e_qv3, e_qv4, e_qv5, e_data1, e_data2, e_data3, e_okI, e_okB, e_i2, e_sub, e_mul, e_mod, e_div, e_pow, e_lt, e_le, e_gt, e_ge, e_neg, e_addI, e_addS, e_addT, e_addL1, e_addL2, e_addL3, e_addL4, e_addL5, e_addL6, e_addL7, e_addL8, e_addL9, e_eq, e_ne, e_in, e_notIn, e_inT, e_inT2, e_inL1, e_inL2, e_inL3, e_is, e_isNot, e_isN1, e_isN2, e_isN3, e_isN4, e_isN5, e_isN6, e_isN7, e_ixT, e_ixL, e_ixO, e_ixB, e_ixSc, e_lenT, e_lenL, e_lenO, e_lenB, e_lenSc, e_lenS, e_tupT, e_tupL, e_tupO, e_tupB, e_lisT, e_lisL, e_lisO, e_lisB, e_min2, e_max2, e_any, e_all, e_sum, e_sorted, e_rev, e_sl, e_oN, e_isi, e_lc, e_wipe0, e_wipe1, e_iA, e_iAb, e_gAq1, e_gAq2, e_gAq3, e_gAqb1, e_gAqb2, e_gAqb3, e_gAqb4, e_no, e_cCh, e_cChI, e_aug, e_decT, e_decF, e_cDispS, e_cDT, e_cDK, e_cDisp1, e_storeA, e_stR1, e_stR2, e_stR3, e_sd1, e_keyD1, e_keyD2, e_keyTD, e_intsD, e_intsD0, e_borT, e_borT2, e_borK, e_borK2, e_argT, e_argT2, e_argK, e_argK2, e_nbT, e_nbK, e_putT, e_putK, e_gAt1, e_gAt2, e_gAt3, e_gAt4, e_gGetDK, e_gGetDT, e_gIxD, e_gInD, e_gNotInD, e_cGet1, e_cGet2, e_dk1, e_dk2, e_dk3, e_dk4, e_dt1, e_dt2, e_del, atI_zero, e_at1, e_at2, e_at3, e_at4, e_at5, e_at6, e_at7, e_at8, e_at9, e_atm, e_V, e_retV, e_unp, e_app, e_store, e_fzE, oS, rsO_some, Rs.bind_ok, Rs.bind_no, Rs.out_ok, Out.then_nx, Out.then_rt, Out.then_ct, Out.then_bk, fin_rt, fin_nx, List.getElem?_cons_zero, List.getElem?_cons_succ, List.set_cons_succ, List.set_cons_zero, List.length_cons, List.length_nil, Nat.reduceAdd, Nat.reduceLT, Nat.reduceLeDiff, Nat.reduceEqDiff, if_true, if_false, Bool.false_eq_true, Bool.not_true, Bool.not_false, and_self, true_and, and_true, List.map_cons, List.map_nil, Option.map_some, sh_int, sh_bool, sh_none, sh_tup, sh_lst, eqv_int, reduceIte, Option.bind_some, Option.bind_none, kitB_ll, kitB_lt, kitB_tt, kitB_tl, kitB_ii, tyD_list, tyD_int, Bool.true_and, Bool.false_and, Bool.and_true, Bool.and_false, Bool.or_true, Bool.true_or, Bool.false_or, Bool.or_false, Bool.and_self, Bool.or_self, e_cAK, List.append_nil, List.nil_append, List.cons_append, e_andB, e_orB, e_andR, e_orR, tyD_tuple, eqv_bool, eqv_none, tyD_bool, tyD_str, tyD_none, kitB_bb, kitB_nb, kitB_bi, kitB_ib, kitB_nl, kitB_nt, beq_self_eq_true, progD, hr, e1]
theorem turns2 (ns : List Int) (h : ns.length ≤ 63) (a b : Int) (hb : 0 < b) (hb2 : b < 1000) (ha0 : 1 ≤ a) (ha : a ≤ 1000) (env : VEnv) (h0 : env[0]? = some (some (.sc ns))) : ∃ m : Nat, (m : Int) ≤ a ∧ (iR gR1 (aC (cA gMin2 (aC (cC (.int a)) (aC (cA gMax2 (aC (cC (.int 1)) (aC (c2 gDiv (cA gLen (aC (cV 0) aN)) (cC (.int b))) aN))) aN))) aN)) env = .ok ((List.range m).map natI) := by
  have hd : 0 ≤ (ns.length : Int) / b := Int.ediv_nonneg (by omega) (by omega)
  obtain ⟨p, hp⟩ : ∃ p, p = (if (ns.length : Int) / b > 1 then (ns.length : Int) / b else 1) := ⟨_, rfl⟩
  have hp1 : 1 ≤ p := by rw [hp]; split <;> omega
  obtain ⟨q, hq⟩ : ∃ q, q = (if p < a then p else a) := ⟨_, rfl⟩
  have hm : q.natAbs ≤ 1000000 ∧ 0 ≤ q ∧ q ≤ a := by rw [hq]; split <;> omega
  refine ⟨q.toNat, by omega, ?_⟩
  have := e_R1 hm.1
  rw [rng_nat] at this
  have hbb : 0 < b ∧ b.natAbs < 1073741824 := by omega
  simp only [e_iR, e_aC, e_cA, e_aN, e_c2, e_V, h0, Rs.bind_ok, e_cC, e_bor4, e_lenSc, e_div, if_pos hbb, e_max2, e_min2, ← hp, ← hq, this]
theorem code_nice (cs : List Ins) : Nice 2 (.list (cs.map Ins.d)) := Nice.lst fun d hd => by
  obtain ⟨i, _, rfl⟩ := List.mem_map.mp hd
  refine Nice.tup fun e he => ?_
  simp at he
  rcases he with rfl | rfl | rfl | rfl | rfl
  · exact Nice.int 0 _
  · refine Nice.str 0 ?_
    unfold Ins.sgn
    split
    · exact minus_ok
    · exact plus_ok
  · exact Nice.str 0 (op_ok _)
  · exact Nice.str 0 (Src.strOk _)
  · exact Nice.str 0 (Src.strOk _)
theorem ints_nice (xs : List Int) : Nice 1 (.list (xs.map .int)) := Nice.lst fun d hd => by
  obtain ⟨i, _, rfl⟩ := List.mem_map.mp hd
  exact Nice.int 0 _
theorem Nice.up {k l : Nat} {d : PyData} (h : Nice k d) (hl : k ≤ l) : Nice l d := ⟨h.1, Nat.le_trans h.2 hl⟩
/-! ### instructions taken back -/
def Ins.opp (i : Ins) : Ins := { i with neg := !i.neg }
theorem Ins.opp_opp (i : Ins) : i.opp.opp = i := by cases i; simp [Ins.opp]
theorem Ins.good.opp {n m : Nat} {i : Ins} (h : i.good n m) : i.opp.good n m := ⟨h.reg, h.l, h.r⟩
theorem src_other {n m reg : Nat} {ins regs : List Int} (x : Int) : ∀ {s : Src}, s.good n m reg → s.val ins (regs.set reg x) = s.val ins regs
  | .x i, _ => rfl
  | .r i, h => by
    show (regs.set reg x).getD i 0 = regs.getD i 0
    rw [List.getD_eq_getElem?_getD, List.getD_eq_getElem?_getD, List.getElem?_set_ne (Ne.symm h.2)]
  | .c k, _ => rfl
theorem emod_back (a v m : Int) (h0 : 0 ≤ a) (h1 : a < m) : ((a + v) % m - v) % m = a ∧ ((a - v) % m + v) % m = a := by
  constructor
  · rw [Int.sub_emod, Int.emod_emod_of_dvd _ (Int.dvd_refl m), ← Int.sub_emod, show a + v - v = a by omega, Int.emod_eq_of_lt h0 h1]
  · rw [Int.add_emod, Int.emod_emod_of_dvd _ (Int.dvd_refl m), ← Int.add_emod, show a - v + v = a by omega, Int.emod_eq_of_lt h0 h1]
theorem Ins.undo {n m : Nat} {ins regs : List Int} {i : Ins} (hm : 0 < m) (h : i.good n m) (hl : regs.length = 8) (hR : Regs m regs) : i.opp.do m ins (i.do m ins regs) = regs := by
  have hr := h.reg
  have ha := hR.at i.reg (by omega)
  obtain ⟨b1, b2⟩ := emod_back (regs.getD i.reg 0) (i.op.ap (i.l.val ins regs) (i.r.val ins regs)) m ha.1 ha.2
  have hg : ∀ x : Int, (regs.set i.reg x).getD i.reg 0 = x := fun x => by
    rw [List.getD_eq_getElem?_getD, List.getElem?_set_self (by omega)]; rfl
  have hs : ∀ x : Int, (regs.set i.reg x).set i.reg (regs.getD i.reg 0) = regs := fun x => by
    rw [List.set_set]
    apply List.ext_getElem?
    intro j
    by_cases e : i.reg = j
    · subst e
      rw [List.getElem?_set_self (by omega), List.getD_eq_getElem?_getD, List.getElem?_eq_getElem (by omega)]
      rfl
    · rw [List.getElem?_set_ne e]
  unfold Ins.do
  show (regs.set i.reg _).set i.reg ((if (!i.neg) = true then _ else _) % (m : Int)) = regs
  simp only [Ins.opp, src_other _ h.l, src_other _ h.r, hg]
  cases hn : i.neg with
  | true =>
    simp only [Bool.not_true, Bool.false_eq_true, if_false, if_true]
    rw [b2]; exact hs _
  | false =>
    simp only [Bool.not_false, Bool.false_eq_true, if_false, if_true]
    rw [b1]; exact hs _
def invM (cs : List Ins) : List Ins := cs.reverse.map Ins.opp
theorem inv_inv (cs : List Ins) : invM (invM cs) = cs := by
  unfold invM
  rw [← List.map_reverse, List.reverse_reverse, List.map_map]
  have : (Ins.opp ∘ Ins.opp) = id := funext fun i => i.opp_opp
  rw [this, List.map_id]
theorem inv_good {n m : Nat} {cs : List Ins} (h : ∀ i ∈ cs, i.good n m) : ∀ i ∈ invM cs, i.good n m := fun i hi => by
  obtain ⟨j, hj, rfl⟩ := List.mem_map.mp hi
  exact (h j (List.mem_reverse.mp hj)).opp
theorem run_app (m : Int) (ins : List Int) (a b : List Ins) (regs : List Int) : runM m ins (a ++ b) regs = runM m ins b (runM m ins a regs) := by
  unfold runM; rw [List.foldl_append]
theorem run_keep {n m : Nat} {ins : List Int} (hm : 0 < m) : ∀ (cs : List Ins) (regs : List Int), regs.length = 8 → Regs m regs → (runM m ins cs regs).length = 8 ∧ Regs m (runM m ins cs regs)
  | [], regs, h, k => ⟨h, k⟩
  | i :: cs, regs, h, k => run_keep (n := n) hm cs (i.do m ins regs) (by rw [Ins.do_len]; exact h) (Ins.do_regs (by omega) k i)
theorem run_back {n m : Nat} {ins : List Int} (hm : 0 < m) : ∀ (cs : List Ins) (regs : List Int), (∀ i ∈ cs, i.good n m) → regs.length = 8 → Regs m regs → runM m ins (invM cs) (runM m ins cs regs) = regs
  | [], regs, _, _, _ => rfl
  | i :: cs, regs, hg, hl, hR => by
    have e : invM (i :: cs) = invM cs ++ [i.opp] := by unfold invM; rw [List.reverse_cons, List.map_append]; rfl
    have ih := run_back (ins := ins) hm cs (i.do m ins regs) (fun j hj => hg j (List.mem_cons_of_mem _ hj)) (by rw [Ins.do_len]; exact hl) (Ins.do_regs (by omega) hR i)
    rw [e, run_app]
    show runM m ins [i.opp] (runM m ins (invM cs) (runM m ins cs (i.do m ins regs))) = regs
    rw [ih]
    exact Ins.undo hm (hg i List.mem_cons_self) hl hR
theorem opposite_ok (i : Ins) : F_opposite [.d i.d] = .ok (.d i.opp.d) := by
  show (sSeq _ _ [some (.d i.d), none, none, none, none, none]).fin = _
  have hd : i.d = .tuple [.int i.reg, .str i.sgn, .str i.op.str, .str i.l.str, .str i.r.str] := rfl
  have ho : i.opp.d = .tuple [.int i.reg, .str i.opp.sgn, .str i.op.str, .str i.l.str, .str i.r.str] := rfl
  rw [hd, ho]
  have s1 : SeqAt.shaped (.str "-") = true := sh_str minus_ok
  have s2 : SeqAt.shaped (.str "+") = true := sh_str plus_ok
  cases hn : i.neg with
  | true =>
    have e1 : i.sgn = "-" := by unfold Ins.sgn; rw [hn]; rfl
    have e2 : i.opp.sgn = "+" := by unfold Ins.sgn Ins.opp; simp [hn]
    have ne : decide (("-" : Str) = "+") = false := decide_eq_false (by rw [sub_ne_add]; exact id)
    rw [e1, e2]
    simp only [e_nil, e_seq, e_fz, e_bk, e_ct, e_ret, e_retN, e_drop, e_set, e_if, e_for, e_cC, e_c2, e_c1, e_cA, e_aN, e_aC, e_cB, e_asB, e_bNot, e_bAnd, e_bOr, e_vAnd, e_vOr, e_vNot, e_vIf, e_bYes, e_iL, e_iT, e_iLb, e_iR, e_gL1, e_gL2, e_gL3, e_gT, e_gLb1, e_gLb2, e_gLb3, e_gLb4, e_nb1, e_nb2, e_bor1, e_bor2, e_bor3, e_bor4, e_arg1, e_arg2, e_arg3, e_arg4, e_putd, e_puto, e_toD1, e_toD2, e_allD0, e_allD1, e_allD2, e_gTupl, e_gList, e_tgnm, e_tgtp, e_tg0, e_tg1, e_sq1, e_sq2, e_sq3, e_sq4, e_sq5, e_qv2, e_qv3, e_qv4, e_qv5, e_data1, e_data2, e_data3, e_okI, e_okB, e_i2, e_sub, e_mul, e_mod, e_div, e_pow, e_lt, e_le, e_gt, e_ge, e_neg, e_addI, e_addS, e_addT, e_addL1, e_addL2, e_addL3, e_addL4, e_addL5, e_addL6, e_addL7, e_addL8, e_addL9, e_eq, e_ne, e_in, e_notIn, e_inT, e_inT2, e_inL1, e_inL2, e_inL3, e_is, e_isNot, e_isN1, e_isN2, e_isN3, e_isN4, e_isN5, e_isN6, e_isN7, e_ixT, e_ixL, e_ixO, e_ixB, e_ixSc, e_lenT, e_lenL, e_lenO, e_lenB, e_lenSc, e_lenS, e_tupT, e_tupL, e_tupO, e_tupB, e_lisT, e_lisL, e_lisO, e_lisB, e_min2, e_max2, e_any, e_all, e_sum, e_sorted, e_rev, e_sl, e_oN, e_isi, e_lc, e_wipe0, e_wipe1, e_iA, e_iAb, e_gAq1, e_gAq2, e_gAq3, e_gAqb1, e_gAqb2, e_gAqb3, e_gAqb4, e_no, e_cCh, e_cChI, e_aug, e_decT, e_decF, e_cDispS, e_cDT, e_cDK, e_cDisp1, e_storeA, e_stR1, e_stR2, e_stR3, e_sd1, e_keyD1, e_keyD2, e_keyTD, e_intsD, e_intsD0, e_borT, e_borT2, e_borK, e_borK2, e_argT, e_argT2, e_argK, e_argK2, e_nbT, e_nbK, e_putT, e_putK, e_gAt1, e_gAt2, e_gAt3, e_gAt4, e_gGetDK, e_gGetDT, e_gIxD, e_gInD, e_gNotInD, e_cGet1, e_cGet2, e_dk1, e_dk2, e_dk3, e_dk4, e_dt1, e_dt2, e_del, atI_zero, e_at1, e_at2, e_at3, e_at4, e_at5, e_at6, e_at7, e_at8, e_at9, e_atm, e_V, e_retV, e_unp, e_app, e_store, e_fzE, oS, rsO_some, Rs.bind_ok, Rs.bind_no, Rs.out_ok, Out.then_nx, Out.then_rt, Out.then_ct, Out.then_bk, fin_rt, fin_nx, List.getElem?_cons_zero, List.getElem?_cons_succ, List.set_cons_succ, List.set_cons_zero, List.length_cons, List.length_nil, Nat.reduceAdd, Nat.reduceLT, Nat.reduceLeDiff, Nat.reduceEqDiff, if_true, if_false, Bool.false_eq_true, Bool.not_true, Bool.not_false, and_self, true_and, and_true, List.map_cons, List.map_nil, Option.map_some, sh_int, sh_bool, sh_none, sh_tup, sh_lst, eqv_int, reduceIte, Option.bind_some, Option.bind_none, kitB_ll, kitB_lt, kitB_tt, kitB_tl, kitB_ii, tyD_list, tyD_int, Bool.true_and, Bool.false_and, Bool.and_true, Bool.and_false, Bool.or_true, Bool.true_or, Bool.false_or, Bool.or_false, Bool.and_self, Bool.or_self, e_cAK, List.append_nil, List.nil_append, List.cons_append, e_andB, e_orB, e_andR, e_orR, tyD_tuple, eqv_bool, eqv_none, tyD_bool, tyD_str, tyD_none, kitB_bb, kitB_nb, kitB_bi, kitB_ib, kitB_nl, kitB_nt, beq_self_eq_true, eqv_str, ne, s1, s2]
  | false =>
    have e1 : i.sgn = "+" := by unfold Ins.sgn; rw [hn]; rfl
    have e2 : i.opp.sgn = "-" := by unfold Ins.sgn Ins.opp; simp [hn]
    have ne : decide (("+" : Str) = "+") = true := decide_eq_true rfl
    rw [e1, e2]
    simp only [e_nil, e_seq, e_fz, e_bk, e_ct, e_ret, e_retN, e_drop, e_set, e_if, e_for, e_cC, e_c2, e_c1, e_cA, e_aN, e_aC, e_cB, e_asB, e_bNot, e_bAnd, e_bOr, e_vAnd, e_vOr, e_vNot, e_vIf, e_bYes, e_iL, e_iT, e_iLb, e_iR, e_gL1, e_gL2, e_gL3, e_gT, e_gLb1, e_gLb2, e_gLb3, e_gLb4, e_nb1, e_nb2, e_bor1, e_bor2, e_bor3, e_bor4, e_arg1, e_arg2, e_arg3, e_arg4, e_putd, e_puto, e_toD1, e_toD2, e_allD0, e_allD1, e_allD2, e_gTupl, e_gList, e_tgnm, e_tgtp, e_tg0, e_tg1, e_sq1, e_sq2, e_sq3, e_sq4, e_sq5, e_qv2, e_qv3, e_qv4, e_qv5, e_data1, e_data2, e_data3, e_okI, e_okB, e_i2, e_sub, e_mul, e_mod, e_div, e_pow, e_lt, e_le, e_gt, e_ge, e_neg, e_addI, e_addS, e_addT, e_addL1, e_addL2, e_addL3, e_addL4, e_addL5, e_addL6, e_addL7, e_addL8, e_addL9, e_eq, e_ne, e_in, e_notIn, e_inT, e_inT2, e_inL1, e_inL2, e_inL3, e_is, e_isNot, e_isN1, e_isN2, e_isN3, e_isN4, e_isN5, e_isN6, e_isN7, e_ixT, e_ixL, e_ixO, e_ixB, e_ixSc, e_lenT, e_lenL, e_lenO, e_lenB, e_lenSc, e_lenS, e_tupT, e_tupL, e_tupO, e_tupB, e_lisT, e_lisL, e_lisO, e_lisB, e_min2, e_max2, e_any, e_all, e_sum, e_sorted, e_rev, e_sl, e_oN, e_isi, e_lc, e_wipe0, e_wipe1, e_iA, e_iAb, e_gAq1, e_gAq2, e_gAq3, e_gAqb1, e_gAqb2, e_gAqb3, e_gAqb4, e_no, e_cCh, e_cChI, e_aug, e_decT, e_decF, e_cDispS, e_cDT, e_cDK, e_cDisp1, e_storeA, e_stR1, e_stR2, e_stR3, e_sd1, e_keyD1, e_keyD2, e_keyTD, e_intsD, e_intsD0, e_borT, e_borT2, e_borK, e_borK2, e_argT, e_argT2, e_argK, e_argK2, e_nbT, e_nbK, e_putT, e_putK, e_gAt1, e_gAt2, e_gAt3, e_gAt4, e_gGetDK, e_gGetDT, e_gIxD, e_gInD, e_gNotInD, e_cGet1, e_cGet2, e_dk1, e_dk2, e_dk3, e_dk4, e_dt1, e_dt2, e_del, atI_zero, e_at1, e_at2, e_at3, e_at4, e_at5, e_at6, e_at7, e_at8, e_at9, e_atm, e_V, e_retV, e_unp, e_app, e_store, e_fzE, oS, rsO_some, Rs.bind_ok, Rs.bind_no, Rs.out_ok, Out.then_nx, Out.then_rt, Out.then_ct, Out.then_bk, fin_rt, fin_nx, List.getElem?_cons_zero, List.getElem?_cons_succ, List.set_cons_succ, List.set_cons_zero, List.length_cons, List.length_nil, Nat.reduceAdd, Nat.reduceLT, Nat.reduceLeDiff, Nat.reduceEqDiff, if_true, if_false, Bool.false_eq_true, Bool.not_true, Bool.not_false, and_self, true_and, and_true, List.map_cons, List.map_nil, Option.map_some, sh_int, sh_bool, sh_none, sh_tup, sh_lst, eqv_int, reduceIte, Option.bind_some, Option.bind_none, kitB_ll, kitB_lt, kitB_tt, kitB_tl, kitB_ii, tyD_list, tyD_int, Bool.true_and, Bool.false_and, Bool.and_true, Bool.and_false, Bool.or_true, Bool.true_or, Bool.false_or, Bool.or_false, Bool.and_self, Bool.or_self, e_cAK, List.append_nil, List.nil_append, List.cons_append, e_andB, e_orB, e_andR, e_orR, tyD_tuple, eqv_bool, eqv_none, tyD_bool, tyD_str, tyD_none, kitB_bb, kitB_nb, kitB_bi, kitB_ib, kitB_nl, kitB_nt, beq_self_eq_true, eqv_str, ne, s1, s2]
theorem num_inj {n k : Nat} (hn : n < 100000) (hk : k < 100000) (e : numS n = numS k) : n = k := by
  have h1 := int_ok hn
  rw [e, int_ok hk] at h1
  injection h1 with h1
  injection h1 with h1
  injection h1 with h1
  omega
theorem lx_inj {c : Str} {a : Nat} (h : Letter c a) {n k : Nat} (hn : n < 100000) (hk : k < 100000) (e : lx c n = lx c k) : n = k := by
  have h1 := lx_tail h hn
  rw [e, lx_tail h hk] at h1
  injection h1 with h1
  injection h1 with h1
  injection h1 with h1
  exact num_inj hn hk h1.symm
theorem lx_ne {c d : Str} {a b : Nat} (h : Letter c a) (k : Letter d b) (ne : a ≠ b) (n m : Nat) : lx c n ≠ lx d m := fun e => by
  have h1 := lx_l h n
  rw [e, lx_l k m] at h1
  injection h1 with h1
  exact ne h1.symm
theorem num_ne {d : Str} {b : Nat} (k : Letter d b) (hb : 57 < b) {n m : Nat} (hn : n < 100000) (hm : m < 100000) : numS n ≠ lx d m := fun e => by
  obtain ⟨x, h1, h2, h3⟩ := num_head hn
  rw [e, lx_head k hm] at h3
  injection h3 with h3
  injection h3 with h3
  injection h3 with h3
  have := digit_ne k h2 hb
  rw [h3] at this
  exact (this ▸ rfl : False)
/-! ### opposite instructions cancelled -/
noncomputable instance : DecidableEq Ins := fun a b => Classical.propDecidable (a = b)
noncomputable def pushI (st : List Ins) (i : Ins) : List Ins := match st with
  | [] => [i]
  | t :: r => if t = i.opp then r else i :: t :: r
noncomputable def canI (cs : List Ins) : List Ins := (cs.foldl pushI []).reverse
def Red : List Ins → Prop
  | a :: b :: r => b ≠ a.opp ∧ Red (b :: r)
  | _ => True
theorem Red.tail {a : Ins} {r : List Ins} (h : Red (a :: r)) : Red r := by
  cases r with
  | nil => exact trivial
  | cons b r => exact h.2
theorem push_red {st : List Ins} (h : Red st) (i : Ins) : Red (pushI st i) := by
  cases st with
  | nil => exact trivial
  | cons t r =>
    show Red (if t = i.opp then r else i :: t :: r)
    split
    · exact h.tail
    · rename_i c
      exact ⟨c, h⟩
theorem push_back {st : List Ins} (h : Red st) (i : Ins) : pushI (pushI st i) i.opp = st := by
  cases st with
  | nil =>
    show (if i = i.opp.opp then [] else _) = _
    rw [if_pos i.opp_opp.symm]
  | cons t r =>
    show pushI (if t = i.opp then r else i :: t :: r) i.opp = t :: r
    by_cases c : t = i.opp
    · rw [if_pos c]
      subst c
      cases r with
      | nil => rfl
      | cons u r =>
        show (if u = i.opp.opp then r else i.opp :: u :: r) = _
        rw [if_neg h.1]
    · rw [if_neg c]
      show (if i = i.opp.opp then t :: r else _) = _
      rw [if_pos i.opp_opp.symm]
theorem fold_red : ∀ (cs st : List Ins), Red st → Red (cs.foldl pushI st)
  | [], _, h => h
  | c :: cs, st, h => fold_red cs _ (push_red h c)
theorem can_pair (a b : List Ins) (x : Ins) : canI (a ++ ([x, x.opp] ++ b)) = canI (a ++ b) := by
  unfold canI
  rw [List.foldl_append, List.foldl_append, List.foldl_append]
  have := push_back (fold_red a [] trivial) x
  show (b.foldl pushI (pushI (pushI (a.foldl pushI []) x) x.opp)).reverse = _
  rw [this]
theorem fold_keep : ∀ (cs st : List Ins), (∀ p c d, cs[p]? = some c → cs[p + 1]? = some d → d ≠ c.opp) → (∀ c t, cs[0]? = some c → st[0]? = some t → t ≠ c.opp) → cs.foldl pushI st = cs.reverse ++ st
  | [], st, _, _ => rfl
  | c :: cs, st, h1, h2 => by
    have e : pushI st c = c :: st := by
      cases st with
      | nil => rfl
      | cons t r =>
        show (if t = c.opp then r else c :: t :: r) = _
        rw [if_neg (h2 c t rfl rfl)]
    rw [List.foldl_cons, e, fold_keep cs (c :: st) (fun p a b ha hb => h1 (p + 1) a b (by simpa using ha) (by simpa using hb)) (fun d t hd ht => ?_), List.reverse_cons, List.append_assoc]
    · rfl
    · have ht : c = t := by simpa using ht
      subst ht
      intro z
      exact h1 0 c d rfl (by simpa using hd) (by rw [z, Ins.opp_opp])
theorem can_keep {cs : List Ins} (h : ∀ p c d, cs[p]? = some c → cs[p + 1]? = some d → d ≠ c.opp) : canI cs = cs := by
  unfold canI
  rw [fold_keep cs [] h (fun c t _ ht => by simp at ht), List.append_nil, List.reverse_reverse]
theorem red_at : ∀ (st : List Ins), Red st → ∀ p c d, st[p]? = some c → st[p + 1]? = some d → d ≠ c.opp
  | [], _, p, c, d, h, _ => by simp at h
  | [a], _, p, c, d, _, h => by simp at h
  | a :: b :: r, h, p, c, d, h1, h2 => by
    cases p with
    | zero =>
      have e1 : a = c := by simpa using h1
      have e2 : b = d := by simpa using h2
      subst e1 e2
      exact h.1
    | succ p => exact red_at (b :: r) h.2 p c d (by simpa using h1) (by simpa using h2)
theorem can_can (cs : List Ins) : canI (canI cs) = canI cs := by
  have h := red_at _ (fold_red cs [] trivial)
  refine can_keep fun p c d h1 h2 => ?_
  unfold canI at h1 h2
  have l2 := (List.getElem?_eq_some_iff.mp h2).1
  rw [List.length_reverse] at l2
  rw [List.getElem?_reverse (by omega)] at h1 h2
  obtain ⟨k, hk⟩ : ∃ k, k = (cs.foldl pushI []).length - 1 - (p + 1) := ⟨_, rfl⟩
  rw [← hk] at h2
  rw [show (cs.foldl pushI []).length - 1 - p = k + 1 by omega] at h1
  intro z
  exact h k d c h2 h1 (by rw [z, Ins.opp_opp])
theorem push_len (st : List Ins) (i : Ins) : (pushI st i).length ≤ st.length + 1 := by
  cases st with
  | nil => exact Nat.le_refl _
  | cons t r =>
    show (if t = i.opp then r else i :: t :: r).length ≤ r.length + 1 + 1
    split
    · omega
    · simp
theorem fold_len : ∀ (cs st : List Ins), (cs.foldl pushI st).length ≤ st.length + cs.length
  | [], _ => Nat.le_refl _
  | c :: cs, st => by
    have h1 := fold_len cs (pushI st c)
    have h2 := push_len st c
    rw [List.foldl_cons, List.length_cons]
    omega
theorem can_len (cs : List Ins) : (canI cs).length ≤ cs.length := by
  unfold canI
  rw [List.length_reverse]
  have := fold_len cs []
  simpa using this
theorem push_mem {st : List Ins} {i j : Ins} (h : j ∈ pushI st i) : j ∈ st ∨ j = i := by
  cases st with
  | nil => exact .inr (List.mem_singleton.mp h)
  | cons t r =>
    have h : j ∈ (if t = i.opp then r else i :: t :: r) := h
    split at h
    · exact .inl (List.mem_cons_of_mem _ h)
    · rcases List.mem_cons.mp h with e | e
      · exact .inr e
      · exact .inl e
theorem fold_mem : ∀ (cs st : List Ins) {j : Ins}, j ∈ cs.foldl pushI st → j ∈ st ∨ j ∈ cs
  | [], _, _, h => .inl h
  | c :: cs, st, j, h => by
    rcases fold_mem cs (pushI st c) h with z | z
    · rcases push_mem z with z | z
      · exact .inl z
      · exact .inr (by rw [z]; exact List.mem_cons_self)
    · exact .inr (List.mem_cons_of_mem _ z)
theorem can_mem {cs : List Ins} {j : Ins} (h : j ∈ canI cs) : j ∈ cs := by
  unfold canI at h
  rcases fold_mem cs [] (List.mem_reverse.mp h) with z | z
  · cases z
  · exact z
theorem run_can {n m : Nat} {ins : List Int} (hm : 0 < m) : ∀ (cs st : List Ins) (regs : List Int), (∀ i ∈ st, i.good n m) → (∀ i ∈ cs, i.good n m) → regs.length = 8 → Regs m regs → runM m ins (cs.foldl pushI st).reverse regs = runM m ins (st.reverse ++ cs) regs
  | [], st, regs, _, _, _, _ => by rw [List.append_nil]; rfl
  | c :: cs, st, regs, hs, hc, hl, hR => by
    have gc := hc c List.mem_cons_self
    have ih := run_can (ins := ins) hm cs (pushI st c) regs (fun i hi => by
      rcases push_mem hi with z | z
      · exact hs i z
      · rw [z]; exact gc) (fun i hi => hc i (List.mem_cons_of_mem _ hi)) hl hR
    rw [List.foldl_cons, ih]
    cases st with
    | nil => rfl
    | cons t r =>
      show runM m ins ((if t = c.opp then r else c :: t :: r).reverse ++ cs) regs = _
      by_cases e : t = c.opp
      · rw [if_pos e]
        subst e
        have k := run_keep (n := n) (ins := ins) hm r.reverse regs hl hR
        have u := Ins.undo (ins := ins) hm (i := c.opp) gc.opp k.1 k.2
        rw [Ins.opp_opp] at u
        have e : (c.opp :: r).reverse ++ c :: cs = r.reverse ++ ([c.opp, c] ++ cs) := by simp
        rw [e, run_app, run_app, run_app]
        show _ = runM m ins cs (c.do m ins (c.opp.do m ins (runM m ins r.reverse regs)))
        rw [u]
      · rw [if_neg e]
        have e : (c :: t :: r).reverse ++ cs = (t :: r).reverse ++ c :: cs := by simp
        rw [e]
/-! ### instructions told apart -/
theorem op_inj {a b : Op} (h : a.str = b.str) : a = b := by
  have n1 : (("+" : Str) = "*") = False := by simp; decide +kernel
  have n2 : (("-" : Str) = "*") = False := by simp; decide +kernel
  cases a <;> cases b <;> first | rfl | (exfalso; first | exact add_ne_sub ▸ h | exact sub_ne_add ▸ h | exact mul_ne_add ▸ h | exact mul_ne_sub ▸ h | exact n1 ▸ h | exact n2 ▸ h)
theorem src_inj {n m reg reg' : Nat} (hn : n ≤ 100000) (hm : m ≤ 100000) {a b : Src} (ha : a.good n m reg) (hb : b.good n m reg') (h : a.str = b.str) : a = b := by
  cases a with
  | x i =>
    have ha : i < n := ha
    cases b with
    | x j => have hb : j < n := hb; rw [lx_inj let_x (by omega) (by omega) h]
    | r j => exact (lx_ne let_x let_r (by decide) _ _ h).elim
    | c j => have hb : j < m := hb; exact (num_ne let_x (by decide) (by omega) (by omega) h.symm).elim
  | r i =>
    have ha : i < 8 := ha.1
    cases b with
    | x j => exact (lx_ne let_r let_x (by decide) _ _ h).elim
    | r j => have hb : j < 8 := hb.1; rw [lx_inj let_r (by omega) (by omega) h]
    | c j => have hb : j < m := hb; exact (num_ne let_r (by decide) (by omega) (by omega) h.symm).elim
  | c i =>
    have ha : i < m := ha
    cases b with
    | x j => have hb : j < n := hb; exact (num_ne let_x (by decide) (by omega) (by omega) h).elim
    | r j => have hb : j < 8 := hb.1; exact (num_ne let_r (by decide) (by omega) (by omega) h).elim
    | c j => have hb : j < m := hb; rw [num_inj (by omega) (by omega) h]
theorem sgn_inj {i j : Ins} (h : i.sgn = j.sgn) : i.neg = j.neg := by
  unfold Ins.sgn at h
  cases h1 : i.neg <;> cases h2 : j.neg <;> rw [h1, h2] at h <;> first | rfl | (exfalso; first | exact add_ne_sub ▸ h | exact sub_ne_add ▸ h)
theorem ins_eqv {n m : Nat} (hn : n ≤ 100000) (hm : m ≤ 100000) {i j : Ins} (hi : i.good n m) (hj : j.good n m) : PyData.eqv i.d j.d = decide (i = j) := by
  have e : PyData.eqv i.d j.d = (decide ((i.reg : Int) = (j.reg : Int)) && (decide (i.sgn = j.sgn) && (decide (i.op.str = j.op.str) && (decide (i.l.str = j.l.str) && (decide (i.r.str = j.r.str) && true))))) := by
    show PyData.eqv (.tuple [.int i.reg, .str i.sgn, .str i.op.str, .str i.l.str, .str i.r.str]) (.tuple [.int j.reg, .str j.sgn, .str j.op.str, .str j.l.str, .str j.r.str]) = _
    rw [PyData.eqv, PyData.eqvAll, PyData.eqvAll, PyData.eqvAll, PyData.eqvAll, PyData.eqvAll, PyData.eqvAll, eqv_int, eqv_str, eqv_str, eqv_str, eqv_str]
  rw [e]
  by_cases c : i = j
  · subst c
    simp
  · rw [decide_eq_false c]
    by_cases c1 : (i.reg : Int) = (j.reg : Int)
    · by_cases c2 : i.sgn = j.sgn
      · by_cases c3 : i.op.str = j.op.str
        · by_cases c4 : i.l.str = j.l.str
          · by_cases c5 : i.r.str = j.r.str
            · exfalso
              apply c
              have h1 : i.reg = j.reg := by omega
              have h2 := sgn_inj c2
              have h3 := op_inj c3
              have h4 := src_inj hn hm hi.l hj.l c4
              have h5 := src_inj hn hm hi.r hj.r c5
              cases i
              cases j
              simp only at h1 h2 h3 h4 h5
              subst h1 h2 h3 h4 h5
              rfl
            · rw [decide_eq_false c5]; simp
          · rw [decide_eq_false c4]; simp
        · rw [decide_eq_false c3]; simp
      · rw [decide_eq_false c2]; simp
    · rw [decide_eq_false c1]; simp
theorem rng1 (n : Nat) : rngL 1 n = (List.range' 1 n).map natI := by
  unfold rngL
  rw [List.range'_eq_map_range, List.map_map]
  apply List.map_congr_left
  intro x _
  show PyData.int (1 + (x : Int)) = .int ((1 + x : Nat) : Int)
  congr 1
theorem cut_take (xs : List PyData) (n : Nat) : cutL xs none (some (n : Int)) = xs.take n := by
  unfold cutL
  rw [HT.sIx_nat]
  have : HT.sIx xs.length 0 none = 0 := rfl
  rw [this, List.drop_zero, Nat.sub_zero]
  by_cases h : n ≤ xs.length
  · rw [Nat.min_eq_left h]
  · rw [Nat.min_eq_right (by omega), List.take_of_length_le (Nat.le_refl _), List.take_of_length_le (by omega)]
theorem cut_drop (xs : List PyData) (n : Nat) : cutL xs (some (n : Int)) none = xs.drop n := by
  unfold cutL
  rw [HT.sIx_nat]
  have : HT.sIx xs.length xs.length none = xs.length := rfl
  rw [this]
  by_cases h : n ≤ xs.length
  · rw [Nat.min_eq_left h]
    exact List.take_of_length_le (by rw [List.length_drop]; omega)
  · rw [Nat.min_eq_right (by omega), Nat.sub_self, List.take_zero, List.drop_eq_nil_iff.mpr (by omega)]
/-! ### a loop that returns at the first row that tells something -/
theorem loop_some {tg : Tg} {f : VEnv → Out} {α : Type} (emb : α → PyData) (g : α → Option PyData) (R : VEnv → Prop) : ∀ (xs : List α) (env : VEnv), R env →
    (∀ x ∈ xs, ∀ env, R env → ∃ e1, tgE tg (emb x) env = some e1 ∧ (match g x with | some d => f e1 = .rt (.d d) | none => ∃ e2, f e1 = .nx e2 ∧ R e2)) →
    match xs.findSome? g with | some d => loopF tg f (xs.map emb) env = .rt (.d d) | none => ∃ e2, loopF tg f (xs.map emb) env = .nx e2 ∧ R e2
  | [], env, h, _ => ⟨env, rfl, h⟩
  | x :: xs, env, h, hs => by
    obtain ⟨e1, t1, h2⟩ := hs x List.mem_cons_self env h
    rw [List.findSome?_cons, List.map_cons, loopF_cons, t1]
    cases hg : g x with
    | some d =>
      rw [hg] at h2
      simp only at h2 ⊢
      simp only [h2, lp_rt]
    | none =>
      rw [hg] at h2
      obtain ⟨e2, h3, r2⟩ := h2
      have ih := loop_some emb g R xs e2 r2 fun y hy => hs y (List.mem_cons_of_mem _ hy)
      simp only [h3, lp_nx]
      exact ih
/-! ### cancelled, and the law's own way, walked -/
theorem other_ok (i : Ins) : F__law_other [.d i.d] = .ok (.d i.opp.d) := by
  have hd : i.d = .tuple [.int i.reg, .str i.sgn, .str i.op.str, .str i.l.str, .str i.r.str] := rfl
  have ho : i.opp.d = .tuple [.int i.reg, .str i.opp.sgn, .str i.op.str, .str i.l.str, .str i.r.str] := rfl
  have g : dGet [((.inr "+" : Key), PyData.str "-"), (.inr "-", .str "+")] (.inr i.sgn) = some (.str i.opp.sgn) := by
    rw [dGet_cons, dGet_cons]
    cases hn : i.neg with
    | true =>
      have e1 : i.sgn = "-" := by unfold Ins.sgn; rw [hn]; rfl
      have e2 : i.opp.sgn = "+" := by unfold Ins.sgn Ins.opp; simp [hn]
      rw [e1, e2, if_neg (fun z => by injection z with z; rw [add_ne_sub] at z; exact z), if_pos rfl]
    | false =>
      have e1 : i.sgn = "+" := by unfold Ins.sgn; rw [hn]; rfl
      have e2 : i.opp.sgn = "-" := by unfold Ins.sgn Ins.opp; simp [hn]
      rw [e1, e2, if_pos rfl]
  show (B__law_other [some (.d i.d)]).fin = _
  unfold B__law_other
  rw [hd, ho]
  simp only [e_nil, e_seq, e_fz, e_bk, e_ct, e_ret, e_retN, e_drop, e_set, e_if, e_for, e_cC, e_c2, e_c1, e_cA, e_aN, e_aC, e_cB, e_asB, e_bNot, e_bAnd, e_bOr, e_vAnd, e_vOr, e_vNot, e_vIf, e_bYes, e_iL, e_iT, e_iLb, e_iR, e_gL1, e_gL2, e_gL3, e_gT, e_gLb1, e_gLb2, e_gLb3, e_gLb4, e_nb1, e_nb2, e_bor1, e_bor2, e_bor3, e_bor4, e_arg1, e_arg2, e_arg3, e_arg4, e_putd, e_puto, e_toD1, e_toD2, e_allD0, e_allD1, e_allD2, e_gTupl, e_gList, e_tgnm, e_tgtp, e_tg0, e_tg1, e_sq1, e_sq2, e_sq3, e_sq4, e_sq5, e_qv2, e_qv3, e_qv4, e_qv5, e_data1, e_data2, e_data3, e_okI, e_okB, e_i2, e_sub, e_mul, e_mod, e_div, e_pow, e_lt, e_le, e_gt, e_ge, e_neg, e_addI, e_addS, e_addT, e_addL1, e_addL2, e_addL3, e_addL4, e_addL5, e_addL6, e_addL7, e_addL8, e_addL9, e_eq, e_ne, e_in, e_notIn, e_inT, e_inT2, e_inL1, e_inL2, e_inL3, e_is, e_isNot, e_isN1, e_isN2, e_isN3, e_isN4, e_isN5, e_isN6, e_isN7, e_ixT, e_ixL, e_ixO, e_ixB, e_ixSc, e_lenT, e_lenL, e_lenO, e_lenB, e_lenSc, e_lenS, e_tupT, e_tupL, e_tupO, e_tupB, e_lisT, e_lisL, e_lisO, e_lisB, e_min2, e_max2, e_any, e_all, e_sum, e_sorted, e_rev, e_sl, e_oN, e_isi, e_lc, e_wipe0, e_wipe1, e_iA, e_iAb, e_gAq1, e_gAq2, e_gAq3, e_gAqb1, e_gAqb2, e_gAqb3, e_gAqb4, e_no, e_cCh, e_cChI, e_aug, e_decT, e_decF, e_cDispS, e_cDT, e_cDK, e_cDisp1, e_storeA, e_stR1, e_stR2, e_stR3, e_sd1, e_keyD1, e_keyD2, e_keyTD, e_intsD, e_intsD0, e_borT, e_borT2, e_borK, e_borK2, e_argT, e_argT2, e_argK, e_argK2, e_nbT, e_nbK, e_putT, e_putK, e_gAt1, e_gAt2, e_gAt3, e_gAt4, e_gGetDK, e_gGetDT, e_gIxD, e_gInD, e_gNotInD, e_cGet1, e_cGet2, e_dk1, e_dk2, e_dk3, e_dk4, e_dt1, e_dt2, e_del, atI_zero, e_at1, e_at2, e_at3, e_at4, e_at5, e_at6, e_at7, e_at8, e_at9, e_atm, e_V, e_retV, e_unp, e_app, e_store, e_fzE, oS, rsO_some, Rs.bind_ok, Rs.bind_no, Rs.out_ok, Out.then_nx, Out.then_rt, Out.then_ct, Out.then_bk, fin_rt, fin_nx, List.getElem?_cons_zero, List.getElem?_cons_succ, List.set_cons_succ, List.set_cons_zero, List.length_cons, List.length_nil, Nat.reduceAdd, Nat.reduceLT, Nat.reduceLeDiff, Nat.reduceEqDiff, if_true, if_false, Bool.false_eq_true, Bool.not_true, Bool.not_false, and_self, true_and, and_true, List.map_cons, List.map_nil, Option.map_some, sh_int, sh_bool, sh_none, sh_tup, sh_lst, eqv_int, reduceIte, Option.bind_some, Option.bind_none, kitB_ll, kitB_lt, kitB_tt, kitB_tl, kitB_ii, tyD_list, tyD_int, Bool.true_and, Bool.false_and, Bool.and_true, Bool.and_false, Bool.or_true, Bool.true_or, Bool.false_or, Bool.or_false, Bool.and_self, Bool.or_self, e_cAK, List.append_nil, List.nil_append, List.cons_append, e_andB, e_orB, e_andR, e_orR, tyD_tuple, eqv_bool, eqv_none, tyD_bool, tyD_str, tyD_none, kitB_bb, kitB_nb, kitB_bi, kitB_ib, kitB_nl, kitB_nt, beq_self_eq_true, g]
theorem ins_shaped (i : Ins) : SeqAt.shaped i.d = true := by
  have h : Nice 1 i.d := Nice.tup fun d hd => by
    simp at hd
    rcases hd with rfl | rfl | rfl | rfl | rfl
    · exact Nice.int 0 _
    · exact Nice.str 0 (sgn_ok _)
    · exact Nice.str 0 (op_ok _)
    · exact Nice.str 0 (Src.strOk _)
    · exact Nice.str 0 (Src.strOk _)
  exact h.shaped (by decide)
theorem cancelled_ok {n m : Nat} (hn : n ≤ 100000) (hm : m ≤ 100000) (cs : List Ins) (hg : ∀ i ∈ cs, i.good n m) (hz : cs.length ≤ 1000) : F_cancelled [.d (.list (cs.map Ins.d))] = .ok (.ol ((canI cs).map Ins.d)) := by
  obtain ⟨env', e1, j2, rfl, _⟩ := loopF_ex (tg := .nm 2) (f := L0_cancelled) (fun k env => ∃ j2, env = [some (.d (.list (cs.map Ins.d))), some (.ol (((cs.take k).foldl pushI []).reverse.map Ins.d)), j2] ∧ k ≤ cs.length) Ins.d cs [some (.d (.list (cs.map Ins.d))), some (.ol []), none] (by
    rintro k env i hx ⟨j2, rfl, hk⟩
    have hk1 := (List.getElem?_eq_some_iff.mp hx).1
    have gi := hg i (List.mem_of_getElem? hx)
    have p1 := opposite_ok i
    have htk : (cs.take (k + 1)).foldl pushI [] = pushI ((cs.take k).foldl pushI []) i := by
      rw [List.take_add_one, hx, List.foldl_append]
      rfl
    have gst : ∀ j ∈ (cs.take k).foldl pushI [], j.good n m := fun j hj => by
      rcases fold_mem _ _ hj with z | z
      · cases z
      · exact hg j (List.mem_of_mem_take z)
    have hlen := fold_len (cs.take k) []
    rw [List.length_take, List.length_nil] at hlen
    refine ⟨[some (.d (.list (cs.map Ins.d))), some (.ol (((cs.take k).foldl pushI []).reverse.map Ins.d)), some (.d i.d)], rfl, ?_⟩
    rw [htk]
    generalize (cs.take k).foldl pushI [] = st at *
    have s2 := ins_shaped i.opp
    cases st with
    | nil =>
      refine ⟨[some (.d (.list (cs.map Ins.d))), some (.ol [i.d]), some (.d i.d)], .inl ?_, _, rfl, hk1⟩
      show L0_cancelled [some (.d (.list (cs.map Ins.d))), some (.ol []), some (.d i.d)] = _
      generalize PyData.list (cs.map Ins.d) = CC
      generalize i.opp.d = OO at *
      generalize i.d = II at *
      unfold L0_cancelled
      simp only [e_nil, e_seq, e_fz, e_bk, e_ct, e_ret, e_retN, e_drop, e_set, e_if, e_for, e_cC, e_c2, e_c1, e_cA, e_aN, e_aC, e_cB, e_asB, e_bNot, e_bAnd, e_bOr, e_vAnd, e_vOr, e_vNot, e_vIf, e_bYes, e_iL, e_iT, e_iLb, e_iR, e_gL1, e_gL2, e_gL3, e_gT, e_gLb1, e_gLb2, e_gLb3, e_gLb4, e_nb1, e_nb2, e_bor1, e_bor2, e_bor3, e_bor4, e_arg1, e_arg2, e_arg3, e_arg4, e_putd, e_puto, e_toD1, e_toD2, e_allD0, e_allD1, e_allD2, e_gTupl, e_gList, e_tgnm, e_tgtp, e_tg0, e_tg1, e_sq1, e_sq2, e_sq3, e_sq4, e_sq5, e_qv2, e_qv3, e_qv4, e_qv5, e_data1, e_data2, e_data3, e_okI, e_okB, e_i2, e_sub, e_mul, e_mod, e_div, e_pow, e_lt, e_le, e_gt, e_ge, e_neg, e_addI, e_addS, e_addT, e_addL1, e_addL2, e_addL3, e_addL4, e_addL5, e_addL6, e_addL7, e_addL8, e_addL9, e_eq, e_ne, e_in, e_notIn, e_inT, e_inT2, e_inL1, e_inL2, e_inL3, e_is, e_isNot, e_isN1, e_isN2, e_isN3, e_isN4, e_isN5, e_isN6, e_isN7, e_ixT, e_ixL, e_ixO, e_ixB, e_ixSc, e_lenT, e_lenL, e_lenO, e_lenB, e_lenSc, e_lenS, e_tupT, e_tupL, e_tupO, e_tupB, e_lisT, e_lisL, e_lisO, e_lisB, e_min2, e_max2, e_any, e_all, e_sum, e_sorted, e_rev, e_sl, e_oN, e_isi, e_lc, e_wipe0, e_wipe1, e_iA, e_iAb, e_gAq1, e_gAq2, e_gAq3, e_gAqb1, e_gAqb2, e_gAqb3, e_gAqb4, e_no, e_cCh, e_cChI, e_aug, e_decT, e_decF, e_cDispS, e_cDT, e_cDK, e_cDisp1, e_storeA, e_stR1, e_stR2, e_stR3, e_sd1, e_keyD1, e_keyD2, e_keyTD, e_intsD, e_intsD0, e_borT, e_borT2, e_borK, e_borK2, e_argT, e_argT2, e_argK, e_argK2, e_nbT, e_nbK, e_putT, e_putK, e_gAt1, e_gAt2, e_gAt3, e_gAt4, e_gGetDK, e_gGetDT, e_gIxD, e_gInD, e_gNotInD, e_cGet1, e_cGet2, e_dk1, e_dk2, e_dk3, e_dk4, e_dt1, e_dt2, e_del, atI_zero, e_at1, e_at2, e_at3, e_at4, e_at5, e_at6, e_at7, e_at8, e_at9, e_atm, e_V, e_retV, e_unp, e_app, e_store, e_fzE, oS, rsO_some, Rs.bind_ok, Rs.bind_no, Rs.out_ok, Out.then_nx, Out.then_rt, Out.then_ct, Out.then_bk, fin_rt, fin_nx, List.getElem?_cons_zero, List.getElem?_cons_succ, List.set_cons_succ, List.set_cons_zero, List.length_cons, List.length_nil, Nat.reduceAdd, Nat.reduceLT, Nat.reduceLeDiff, Nat.reduceEqDiff, if_true, if_false, Bool.false_eq_true, Bool.not_true, Bool.not_false, and_self, true_and, and_true, List.map_cons, List.map_nil, Option.map_some, sh_int, sh_bool, sh_none, sh_tup, sh_lst, eqv_int, reduceIte, Option.bind_some, Option.bind_none, kitB_ll, kitB_lt, kitB_tt, kitB_tl, kitB_ii, tyD_list, tyD_int, Bool.true_and, Bool.false_and, Bool.and_true, Bool.and_false, Bool.or_true, Bool.true_or, Bool.false_or, Bool.or_false, Bool.and_self, Bool.or_self, e_cAK, List.append_nil, List.nil_append, List.cons_append, e_andB, e_orB, e_andR, e_orR, tyD_tuple, eqv_bool, eqv_none, tyD_bool, tyD_str, tyD_none, kitB_bb, kitB_nb, kitB_bi, kitB_ib, kitB_nl, kitB_nt, beq_self_eq_true]
      rfl
    | cons t r =>
      have gt := gst t List.mem_cons_self
      have s1 := ins_shaped t
      have ev := ins_eqv hn hm gt gi.opp
      have hrv : ((t :: r).reverse.map Ins.d) = r.reverse.map Ins.d ++ [t.d] := by rw [List.reverse_cons, List.map_append]; rfl
      have hln : (r.reverse.map Ins.d).length = r.length := by rw [List.length_map, List.length_reverse]
      have dp : decide (((r.length + 1 : Nat) : Int) > 0) = true := decide_eq_true (by omega)
      have hdl : (r.reverse.map Ins.d ++ [t.d]).dropLast = r.reverse.map Ins.d := List.dropLast_concat
      have hne : ¬ (r.reverse.map Ins.d ++ [t.d] = []) := by simp
      rw [List.length_cons] at hlen
      rw [hrv]
      by_cases c : t = i.opp
      · have e : pushI (t :: r) i = r := if_pos c
        rw [e]
        rw [decide_eq_true c] at ev
        refine ⟨[some (.d (.list (cs.map Ins.d))), some (.ol (r.reverse.map Ins.d)), some (.d i.d)], .inl ?_, _, rfl, hk1⟩
        generalize PyData.list (cs.map Ins.d) = CC at *
        generalize r.reverse.map Ins.d = RR at *
        generalize i.opp.d = OO at *
        generalize i.d = II at *
        generalize t.d = TT at *
        unfold L0_cancelled
        simp only [e_nil, e_seq, e_fz, e_bk, e_ct, e_ret, e_retN, e_drop, e_set, e_if, e_for, e_cC, e_c2, e_c1, e_cA, e_aN, e_aC, e_cB, e_asB, e_bNot, e_bAnd, e_bOr, e_vAnd, e_vOr, e_vNot, e_vIf, e_bYes, e_iL, e_iT, e_iLb, e_iR, e_gL1, e_gL2, e_gL3, e_gT, e_gLb1, e_gLb2, e_gLb3, e_gLb4, e_nb1, e_nb2, e_bor1, e_bor2, e_bor3, e_bor4, e_arg1, e_arg2, e_arg3, e_arg4, e_putd, e_puto, e_toD1, e_toD2, e_allD0, e_allD1, e_allD2, e_gTupl, e_gList, e_tgnm, e_tgtp, e_tg0, e_tg1, e_sq1, e_sq2, e_sq3, e_sq4, e_sq5, e_qv2, e_qv3, e_qv4, e_qv5, e_data1, e_data2, e_data3, e_okI, e_okB, e_i2, e_sub, e_mul, e_mod, e_div, e_pow, e_lt, e_le, e_gt, e_ge, e_neg, e_addI, e_addS, e_addT, e_addL1, e_addL2, e_addL3, e_addL4, e_addL5, e_addL6, e_addL7, e_addL8, e_addL9, e_eq, e_ne, e_in, e_notIn, e_inT, e_inT2, e_inL1, e_inL2, e_inL3, e_is, e_isNot, e_isN1, e_isN2, e_isN3, e_isN4, e_isN5, e_isN6, e_isN7, e_ixT, e_ixL, e_ixO, e_ixB, e_ixSc, e_lenT, e_lenL, e_lenO, e_lenB, e_lenSc, e_lenS, e_tupT, e_tupL, e_tupO, e_tupB, e_lisT, e_lisL, e_lisO, e_lisB, e_min2, e_max2, e_any, e_all, e_sum, e_sorted, e_rev, e_sl, e_oN, e_isi, e_lc, e_wipe0, e_wipe1, e_iA, e_iAb, e_gAq1, e_gAq2, e_gAq3, e_gAqb1, e_gAqb2, e_gAqb3, e_gAqb4, e_no, e_cCh, e_cChI, e_aug, e_decT, e_decF, e_cDispS, e_cDT, e_cDK, e_cDisp1, e_storeA, e_stR1, e_stR2, e_stR3, e_sd1, e_keyD1, e_keyD2, e_keyTD, e_intsD, e_intsD0, e_borT, e_borT2, e_borK, e_borK2, e_argT, e_argT2, e_argK, e_argK2, e_nbT, e_nbK, e_putT, e_putK, e_gAt1, e_gAt2, e_gAt3, e_gAt4, e_gGetDK, e_gGetDT, e_gIxD, e_gInD, e_gNotInD, e_cGet1, e_cGet2, e_dk1, e_dk2, e_dk3, e_dk4, e_dt1, e_dt2, e_del, atI_zero, e_at1, e_at2, e_at3, e_at4, e_at5, e_at6, e_at7, e_at8, e_at9, e_atm, e_V, e_retV, e_unp, e_app, e_store, e_fzE, oS, rsO_some, Rs.bind_ok, Rs.bind_no, Rs.out_ok, Out.then_nx, Out.then_rt, Out.then_ct, Out.then_bk, fin_rt, fin_nx, List.getElem?_cons_zero, List.getElem?_cons_succ, List.set_cons_succ, List.set_cons_zero, List.length_cons, List.length_nil, Nat.reduceAdd, Nat.reduceLT, Nat.reduceLeDiff, Nat.reduceEqDiff, if_true, if_false, Bool.false_eq_true, Bool.not_true, Bool.not_false, and_self, true_and, and_true, List.map_cons, List.map_nil, Option.map_some, sh_int, sh_bool, sh_none, sh_tup, sh_lst, eqv_int, reduceIte, Option.bind_some, Option.bind_none, kitB_ll, kitB_lt, kitB_tt, kitB_tl, kitB_ii, tyD_list, tyD_int, Bool.true_and, Bool.false_and, Bool.and_true, Bool.and_false, Bool.or_true, Bool.true_or, Bool.false_or, Bool.or_false, Bool.and_self, Bool.or_self, e_cAK, List.append_nil, List.nil_append, List.cons_append, e_andB, e_orB, e_andR, e_orR, tyD_tuple, eqv_bool, eqv_none, tyD_bool, tyD_str, tyD_none, kitB_bb, kitB_nb, kitB_bi, kitB_ib, kitB_nl, kitB_nt, beq_self_eq_true, List.length_append, hln, dp, p1, s1, s2, ev, e_pop, if_neg hne, hdl]
      · have e : pushI (t :: r) i = i :: t :: r := if_neg c
        rw [e]
        rw [decide_eq_false c] at ev
        have hrv2 : ((i :: t :: r).reverse.map Ins.d) = r.reverse.map Ins.d ++ [t.d] ++ [i.d] := by rw [List.reverse_cons, List.map_append, hrv]; rfl
        rw [hrv2]
        have hz2 : r.length ≤ 999999 := by omega
        refine ⟨[some (.d (.list (cs.map Ins.d))), some (.ol (r.reverse.map Ins.d ++ [t.d] ++ [i.d])), some (.d i.d)], .inl ?_, _, rfl, hk1⟩
        generalize PyData.list (cs.map Ins.d) = CC at *
        generalize r.reverse.map Ins.d = RR at *
        generalize i.opp.d = OO at *
        generalize i.d = II at *
        generalize t.d = TT at *
        unfold L0_cancelled
        simp only [e_nil, e_seq, e_fz, e_bk, e_ct, e_ret, e_retN, e_drop, e_set, e_if, e_for, e_cC, e_c2, e_c1, e_cA, e_aN, e_aC, e_cB, e_asB, e_bNot, e_bAnd, e_bOr, e_vAnd, e_vOr, e_vNot, e_vIf, e_bYes, e_iL, e_iT, e_iLb, e_iR, e_gL1, e_gL2, e_gL3, e_gT, e_gLb1, e_gLb2, e_gLb3, e_gLb4, e_nb1, e_nb2, e_bor1, e_bor2, e_bor3, e_bor4, e_arg1, e_arg2, e_arg3, e_arg4, e_putd, e_puto, e_toD1, e_toD2, e_allD0, e_allD1, e_allD2, e_gTupl, e_gList, e_tgnm, e_tgtp, e_tg0, e_tg1, e_sq1, e_sq2, e_sq3, e_sq4, e_sq5, e_qv2, e_qv3, e_qv4, e_qv5, e_data1, e_data2, e_data3, e_okI, e_okB, e_i2, e_sub, e_mul, e_mod, e_div, e_pow, e_lt, e_le, e_gt, e_ge, e_neg, e_addI, e_addS, e_addT, e_addL1, e_addL2, e_addL3, e_addL4, e_addL5, e_addL6, e_addL7, e_addL8, e_addL9, e_eq, e_ne, e_in, e_notIn, e_inT, e_inT2, e_inL1, e_inL2, e_inL3, e_is, e_isNot, e_isN1, e_isN2, e_isN3, e_isN4, e_isN5, e_isN6, e_isN7, e_ixT, e_ixL, e_ixO, e_ixB, e_ixSc, e_lenT, e_lenL, e_lenO, e_lenB, e_lenSc, e_lenS, e_tupT, e_tupL, e_tupO, e_tupB, e_lisT, e_lisL, e_lisO, e_lisB, e_min2, e_max2, e_any, e_all, e_sum, e_sorted, e_rev, e_sl, e_oN, e_isi, e_lc, e_wipe0, e_wipe1, e_iA, e_iAb, e_gAq1, e_gAq2, e_gAq3, e_gAqb1, e_gAqb2, e_gAqb3, e_gAqb4, e_no, e_cCh, e_cChI, e_aug, e_decT, e_decF, e_cDispS, e_cDT, e_cDK, e_cDisp1, e_storeA, e_stR1, e_stR2, e_stR3, e_sd1, e_keyD1, e_keyD2, e_keyTD, e_intsD, e_intsD0, e_borT, e_borT2, e_borK, e_borK2, e_argT, e_argT2, e_argK, e_argK2, e_nbT, e_nbK, e_putT, e_putK, e_gAt1, e_gAt2, e_gAt3, e_gAt4, e_gGetDK, e_gGetDT, e_gIxD, e_gInD, e_gNotInD, e_cGet1, e_cGet2, e_dk1, e_dk2, e_dk3, e_dk4, e_dt1, e_dt2, e_del, atI_zero, e_at1, e_at2, e_at3, e_at4, e_at5, e_at6, e_at7, e_at8, e_at9, e_atm, e_V, e_retV, e_unp, e_app, e_store, e_fzE, oS, rsO_some, Rs.bind_ok, Rs.bind_no, Rs.out_ok, Out.then_nx, Out.then_rt, Out.then_ct, Out.then_bk, fin_rt, fin_nx, List.getElem?_cons_zero, List.getElem?_cons_succ, List.set_cons_succ, List.set_cons_zero, List.length_cons, List.length_nil, Nat.reduceAdd, Nat.reduceLT, Nat.reduceLeDiff, Nat.reduceEqDiff, if_true, if_false, Bool.false_eq_true, Bool.not_true, Bool.not_false, and_self, true_and, and_true, List.map_cons, List.map_nil, Option.map_some, sh_int, sh_bool, sh_none, sh_tup, sh_lst, eqv_int, reduceIte, Option.bind_some, Option.bind_none, kitB_ll, kitB_lt, kitB_tt, kitB_tl, kitB_ii, tyD_list, tyD_int, Bool.true_and, Bool.false_and, Bool.and_true, Bool.and_false, Bool.or_true, Bool.true_or, Bool.false_or, Bool.or_false, Bool.and_self, Bool.or_self, e_cAK, List.append_nil, List.nil_append, List.cons_append, e_andB, e_orB, e_andR, e_orR, tyD_tuple, eqv_bool, eqv_none, tyD_bool, tyD_str, tyD_none, kitB_bb, kitB_nb, kitB_bi, kitB_ib, kitB_nl, kitB_nt, beq_self_eq_true, List.length_append, hln, dp, p1, s1, s2, ev, if_pos hz2]) ⟨none, rfl, by omega⟩
  rw [List.take_length] at e1
  have hi : gAq (.d (.list (cs.map Ins.d))) = .ok (cs.map Ins.d) := rfl
  show (B_cancelled [some (.d (.list (cs.map Ins.d))), none, none]).fin = _
  unfold B_cancelled canI
  generalize PyData.list (cs.map Ins.d) = CC at *
  simp only [e_nil, e_seq, e_fz, e_bk, e_ct, e_ret, e_retN, e_drop, e_set, e_if, e_for, e_cC, e_c2, e_c1, e_cA, e_aN, e_aC, e_cB, e_asB, e_bNot, e_bAnd, e_bOr, e_vAnd, e_vOr, e_vNot, e_vIf, e_bYes, e_iL, e_iT, e_iLb, e_iR, e_gL1, e_gL2, e_gL3, e_gT, e_gLb1, e_gLb2, e_gLb3, e_gLb4, e_nb1, e_nb2, e_bor1, e_bor2, e_bor3, e_bor4, e_arg1, e_arg2, e_arg3, e_arg4, e_putd, e_puto, e_toD1, e_toD2, e_allD0, e_allD1, e_allD2, e_gTupl, e_gList, e_tgnm, e_tgtp, e_tg0, e_tg1, e_sq1, e_sq2, e_sq3, e_sq4, e_sq5, e_qv2, e_qv3, e_qv4, e_qv5, e_data1, e_data2, e_data3, e_okI, e_okB, e_i2, e_sub, e_mul, e_mod, e_div, e_pow, e_lt, e_le, e_gt, e_ge, e_neg, e_addI, e_addS, e_addT, e_addL1, e_addL2, e_addL3, e_addL4, e_addL5, e_addL6, e_addL7, e_addL8, e_addL9, e_eq, e_ne, e_in, e_notIn, e_inT, e_inT2, e_inL1, e_inL2, e_inL3, e_is, e_isNot, e_isN1, e_isN2, e_isN3, e_isN4, e_isN5, e_isN6, e_isN7, e_ixT, e_ixL, e_ixO, e_ixB, e_ixSc, e_lenT, e_lenL, e_lenO, e_lenB, e_lenSc, e_lenS, e_tupT, e_tupL, e_tupO, e_tupB, e_lisT, e_lisL, e_lisO, e_lisB, e_min2, e_max2, e_any, e_all, e_sum, e_sorted, e_rev, e_sl, e_oN, e_isi, e_lc, e_wipe0, e_wipe1, e_iA, e_iAb, e_gAq1, e_gAq2, e_gAq3, e_gAqb1, e_gAqb2, e_gAqb3, e_gAqb4, e_no, e_cCh, e_cChI, e_aug, e_decT, e_decF, e_cDispS, e_cDT, e_cDK, e_cDisp1, e_storeA, e_stR1, e_stR2, e_stR3, e_sd1, e_keyD1, e_keyD2, e_keyTD, e_intsD, e_intsD0, e_borT, e_borT2, e_borK, e_borK2, e_argT, e_argT2, e_argK, e_argK2, e_nbT, e_nbK, e_putT, e_putK, e_gAt1, e_gAt2, e_gAt3, e_gAt4, e_gGetDK, e_gGetDT, e_gIxD, e_gInD, e_gNotInD, e_cGet1, e_cGet2, e_dk1, e_dk2, e_dk3, e_dk4, e_dt1, e_dt2, e_del, atI_zero, e_at1, e_at2, e_at3, e_at4, e_at5, e_at6, e_at7, e_at8, e_at9, e_atm, e_V, e_retV, e_unp, e_app, e_store, e_fzE, oS, rsO_some, Rs.bind_ok, Rs.bind_no, Rs.out_ok, Out.then_nx, Out.then_rt, Out.then_ct, Out.then_bk, fin_rt, fin_nx, List.getElem?_cons_zero, List.getElem?_cons_succ, List.set_cons_succ, List.set_cons_zero, List.length_cons, List.length_nil, Nat.reduceAdd, Nat.reduceLT, Nat.reduceLeDiff, Nat.reduceEqDiff, if_true, if_false, Bool.false_eq_true, Bool.not_true, Bool.not_false, and_self, true_and, and_true, List.map_cons, List.map_nil, Option.map_some, sh_int, sh_bool, sh_none, sh_tup, sh_lst, eqv_int, reduceIte, Option.bind_some, Option.bind_none, kitB_ll, kitB_lt, kitB_tt, kitB_tl, kitB_ii, tyD_list, tyD_int, Bool.true_and, Bool.false_and, Bool.and_true, Bool.and_false, Bool.or_true, Bool.true_or, Bool.false_or, Bool.or_false, Bool.and_self, Bool.or_self, e_cAK, List.append_nil, List.nil_append, List.cons_append, e_andB, e_orB, e_andR, e_orR, tyD_tuple, eqv_bool, eqv_none, tyD_bool, tyD_str, tyD_none, kitB_bb, kitB_nb, kitB_bi, kitB_ib, kitB_nl, kitB_nt, beq_self_eq_true, e_iA, hi, e1]
/-- the first pair is taken out, again and again -/
theorem due_ok {n m : Nat} (hn : n ≤ 100000) (hm : m ≤ 100000) : ∀ (k : Nat) (cs : List Ins), (∀ i ∈ cs, i.good n m) → cs.length < 2 * k → cs.length ≤ 1000 → FN__law_due k [.d (.list (cs.map Ins.d))] = .ok (.d (.list ((canI cs).map Ins.d)))
  | 0, cs, _, h, _ => by omega
  | k + 1, cs, hg, hk, hz => by
    have ih := due_ok hn hm k
    show (B__law_due (FN__law_due k) [some (.d (.list (cs.map Ins.d))), none]).fin = _
    obtain ⟨g, hgd⟩ : ∃ g : Nat → Option PyData, g = fun p => if cs[p]? = (cs[p - 1]?).map Ins.opp then some (.list ((canI (cs.take (p - 1) ++ cs.drop (p + 1))).map Ins.d)) else none := ⟨_, rfl⟩
    have hr : gR2 [.d (.int 1), .d (.int (cs.length : Int))] = .ok ((List.range' 1 (cs.length - 1)).map natI) := by
      rw [e_R2 (by decide) (by omega), ← rng1]
      congr 2
      omega
    have hln : gLen [.d (.list (cs.map Ins.d))] = .ok (.d (.int (cs.length : Int))) := by rw [e_lenL, List.length_map]
    have lp := loop_some natI g (fun env => ∃ j1, env = [some (.d (.list (cs.map Ins.d))), j1]) (tg := .nm 1) (f := L0__law_due (FN__law_due k)) (List.range' 1 (cs.length - 1)) [some (.d (.list (cs.map Ins.d))), none] ⟨none, rfl⟩ (by
      rintro p hp _ ⟨j1, rfl⟩
      have hp := List.mem_range'_1.mp hp
      have hp1 : p - 1 < cs.length := by omega
      have hp2 : p < cs.length := by omega
      refine ⟨[some (.d (.list (cs.map Ins.d))), some (.d (.int (p : Int)))], rfl, ?_⟩
      have x1 : atI (cs.map Ins.d) (p : Int) = some (cs[p]).d := by rw [atI_cons _ _ (by rw [List.length_map]; exact hp2), List.getElem?_map, List.getElem?_eq_getElem hp2]; rfl
      have x2 : atI (cs.map Ins.d) ((p : Int) - 1) = some (cs[p - 1]).d := by rw [show (p : Int) - 1 = ((p - 1 : Nat) : Int) by omega, atI_cons _ _ (by rw [List.length_map]; exact hp1), List.getElem?_map, List.getElem?_eq_getElem hp1]; rfl
      have p1 := other_ok cs[p - 1]
      have s1 := ins_shaped cs[p]
      have s2 := ins_shaped (cs[p - 1]).opp
      have ev := ins_eqv hn hm (hg _ (List.getElem_mem hp2)) (hg _ (List.getElem_mem hp1)).opp
      have hgp : g p = if cs[p] = (cs[p - 1]).opp then some (.list ((canI (cs.take (p - 1) ++ cs.drop (p + 1))).map Ins.d)) else none := by
        rw [hgd]
        simp only [List.getElem?_eq_getElem hp1, List.getElem?_eq_getElem hp2, Option.map_some, Option.some.injEq]
      rw [hgp]
      by_cases c : cs[p] = (cs[p - 1]).opp
      · rw [if_pos c]
        rw [decide_eq_true c] at ev
        show _ = _
        have ihr := ih (cs.take (p - 1) ++ cs.drop (p + 1)) (fun i hi => by
          rcases List.mem_append.mp hi with z | z
          · exact hg i (List.mem_of_mem_take z)
          · exact hg i (List.mem_of_mem_drop z)) (by rw [List.length_append, List.length_take, List.length_drop]; omega) (by rw [List.length_append, List.length_take, List.length_drop]; omega)
        have c1 : cutL (cs.map Ins.d) none (some ((p : Int) - 1)) = (cs.take (p - 1)).map Ins.d := by rw [show (p : Int) - 1 = ((p - 1 : Nat) : Int) by omega, cut_take, List.map_take]
        have c2' : cutL (cs.map Ins.d) (some ((p : Int) + 1)) none = (cs.drop (p + 1)).map Ins.d := by rw [show (p : Int) + 1 = ((p + 1 : Nat) : Int) by omega, cut_drop, List.map_drop]
        have lz : ((cs.take (p - 1)).map Ins.d).length + (cs.drop (p + 1)).length ≤ 1000000 := by rw [List.length_map, List.length_take, List.length_drop]; omega
        rw [List.map_append] at ihr
        have sl : ∀ lo hi, gSl (.d (.list (cs.map Ins.d))) lo hi = .ok (.ol (cutL (cs.map Ins.d) lo hi)) := fun _ _ => rfl
        have hix : ∀ x, gIx (.d (.list (cs.map Ins.d))) (.d (.int x)) = (rsO (atI (cs.map Ins.d) x)).bind fun d => .ok (.d d) := fun _ => rfl
        generalize (cs[p - 1]).opp.d = OO at *
        generalize (cs[p - 1]).d = QQ at *
        generalize (cs[p]).d = PP at *
        generalize (cs.take (p - 1)).map Ins.d = AA at *
        unfold L0__law_due
        simp only [e_nil, e_seq, e_fz, e_bk, e_ct, e_ret, e_retN, e_drop, e_set, e_if, e_for, e_cC, e_c2, e_c1, e_cA, e_aN, e_aC, e_cB, e_asB, e_bNot, e_bAnd, e_bOr, e_vAnd, e_vOr, e_vNot, e_vIf, e_bYes, e_iL, e_iT, e_iLb, e_iR, e_gL1, e_gL2, e_gL3, e_gT, e_gLb1, e_gLb2, e_gLb3, e_gLb4, e_nb1, e_nb2, e_bor1, e_bor2, e_bor3, e_bor4, e_arg1, e_arg2, e_arg3, e_arg4, e_putd, e_puto, e_toD1, e_toD2, e_allD0, e_allD1, e_allD2, e_gTupl, e_gList, e_tgnm, e_tgtp, e_tg0, e_tg1, e_sq1, e_sq2, e_sq3, e_sq4, e_sq5, e_qv2, e_qv3, e_qv4, e_qv5, e_data1, e_data2, e_data3, e_okI, e_okB, e_i2, e_sub, e_mul, e_mod, e_div, e_pow, e_lt, e_le, e_gt, e_ge, e_neg, e_addI, e_addS, e_addT, e_addL1, e_addL2, e_addL3, e_addL4, e_addL5, e_addL6, e_addL7, e_addL8, e_addL9, e_eq, e_ne, e_in, e_notIn, e_inT, e_inT2, e_inL1, e_inL2, e_inL3, e_is, e_isNot, e_isN1, e_isN2, e_isN3, e_isN4, e_isN5, e_isN6, e_isN7, e_ixT, e_ixL, e_ixO, e_ixB, e_ixSc, e_lenT, e_lenL, e_lenO, e_lenB, e_lenSc, e_lenS, e_tupT, e_tupL, e_tupO, e_tupB, e_lisT, e_lisL, e_lisO, e_lisB, e_min2, e_max2, e_any, e_all, e_sum, e_sorted, e_rev, e_sl, e_oN, e_isi, e_lc, e_wipe0, e_wipe1, e_iA, e_iAb, e_gAq1, e_gAq2, e_gAq3, e_gAqb1, e_gAqb2, e_gAqb3, e_gAqb4, e_no, e_cCh, e_cChI, e_aug, e_decT, e_decF, e_cDispS, e_cDT, e_cDK, e_cDisp1, e_storeA, e_stR1, e_stR2, e_stR3, e_sd1, e_keyD1, e_keyD2, e_keyTD, e_intsD, e_intsD0, e_borT, e_borT2, e_borK, e_borK2, e_argT, e_argT2, e_argK, e_argK2, e_nbT, e_nbK, e_putT, e_putK, e_gAt1, e_gAt2, e_gAt3, e_gAt4, e_gGetDK, e_gGetDT, e_gIxD, e_gInD, e_gNotInD, e_cGet1, e_cGet2, e_dk1, e_dk2, e_dk3, e_dk4, e_dt1, e_dt2, e_del, atI_zero, e_at1, e_at2, e_at3, e_at4, e_at5, e_at6, e_at7, e_at8, e_at9, e_atm, e_V, e_retV, e_unp, e_app, e_store, e_fzE, oS, rsO_some, Rs.bind_ok, Rs.bind_no, Rs.out_ok, Out.then_nx, Out.then_rt, Out.then_ct, Out.then_bk, fin_rt, fin_nx, List.getElem?_cons_zero, List.getElem?_cons_succ, List.set_cons_succ, List.set_cons_zero, List.length_cons, List.length_nil, Nat.reduceAdd, Nat.reduceLT, Nat.reduceLeDiff, Nat.reduceEqDiff, if_true, if_false, Bool.false_eq_true, Bool.not_true, Bool.not_false, and_self, true_and, and_true, List.map_cons, List.map_nil, Option.map_some, sh_int, sh_bool, sh_none, sh_tup, sh_lst, eqv_int, reduceIte, Option.bind_some, Option.bind_none, kitB_ll, kitB_lt, kitB_tt, kitB_tl, kitB_ii, tyD_list, tyD_int, Bool.true_and, Bool.false_and, Bool.and_true, Bool.and_false, Bool.or_true, Bool.true_or, Bool.false_or, Bool.or_false, Bool.and_self, Bool.or_self, e_cAK, List.append_nil, List.nil_append, List.cons_append, e_andB, e_orB, e_andR, e_orR, tyD_tuple, eqv_bool, eqv_none, tyD_bool, tyD_str, tyD_none, kitB_bb, kitB_nb, kitB_bi, kitB_ib, kitB_nl, kitB_nt, beq_self_eq_true, x1, x2, p1, s1, s2, ev, sl, c1, c2', List.length_map, if_pos lz, ihr]
      · rw [if_neg c]
        rw [decide_eq_false c] at ev
        refine ⟨[some (.d (.list (cs.map Ins.d))), some (.d (.int (p : Int)))], ?_, _, rfl⟩
        generalize (cs[p - 1]).opp.d = OO at *
        generalize (cs[p - 1]).d = QQ at *
        generalize (cs[p]).d = PP at *
        generalize cs.map Ins.d = CC at *
        unfold L0__law_due
        simp only [e_nil, e_seq, e_fz, e_bk, e_ct, e_ret, e_retN, e_drop, e_set, e_if, e_for, e_cC, e_c2, e_c1, e_cA, e_aN, e_aC, e_cB, e_asB, e_bNot, e_bAnd, e_bOr, e_vAnd, e_vOr, e_vNot, e_vIf, e_bYes, e_iL, e_iT, e_iLb, e_iR, e_gL1, e_gL2, e_gL3, e_gT, e_gLb1, e_gLb2, e_gLb3, e_gLb4, e_nb1, e_nb2, e_bor1, e_bor2, e_bor3, e_bor4, e_arg1, e_arg2, e_arg3, e_arg4, e_putd, e_puto, e_toD1, e_toD2, e_allD0, e_allD1, e_allD2, e_gTupl, e_gList, e_tgnm, e_tgtp, e_tg0, e_tg1, e_sq1, e_sq2, e_sq3, e_sq4, e_sq5, e_qv2, e_qv3, e_qv4, e_qv5, e_data1, e_data2, e_data3, e_okI, e_okB, e_i2, e_sub, e_mul, e_mod, e_div, e_pow, e_lt, e_le, e_gt, e_ge, e_neg, e_addI, e_addS, e_addT, e_addL1, e_addL2, e_addL3, e_addL4, e_addL5, e_addL6, e_addL7, e_addL8, e_addL9, e_eq, e_ne, e_in, e_notIn, e_inT, e_inT2, e_inL1, e_inL2, e_inL3, e_is, e_isNot, e_isN1, e_isN2, e_isN3, e_isN4, e_isN5, e_isN6, e_isN7, e_ixT, e_ixL, e_ixO, e_ixB, e_ixSc, e_lenT, e_lenL, e_lenO, e_lenB, e_lenSc, e_lenS, e_tupT, e_tupL, e_tupO, e_tupB, e_lisT, e_lisL, e_lisO, e_lisB, e_min2, e_max2, e_any, e_all, e_sum, e_sorted, e_rev, e_sl, e_oN, e_isi, e_lc, e_wipe0, e_wipe1, e_iA, e_iAb, e_gAq1, e_gAq2, e_gAq3, e_gAqb1, e_gAqb2, e_gAqb3, e_gAqb4, e_no, e_cCh, e_cChI, e_aug, e_decT, e_decF, e_cDispS, e_cDT, e_cDK, e_cDisp1, e_storeA, e_stR1, e_stR2, e_stR3, e_sd1, e_keyD1, e_keyD2, e_keyTD, e_intsD, e_intsD0, e_borT, e_borT2, e_borK, e_borK2, e_argT, e_argT2, e_argK, e_argK2, e_nbT, e_nbK, e_putT, e_putK, e_gAt1, e_gAt2, e_gAt3, e_gAt4, e_gGetDK, e_gGetDT, e_gIxD, e_gInD, e_gNotInD, e_cGet1, e_cGet2, e_dk1, e_dk2, e_dk3, e_dk4, e_dt1, e_dt2, e_del, atI_zero, e_at1, e_at2, e_at3, e_at4, e_at5, e_at6, e_at7, e_at8, e_at9, e_atm, e_V, e_retV, e_unp, e_app, e_store, e_fzE, oS, rsO_some, Rs.bind_ok, Rs.bind_no, Rs.out_ok, Out.then_nx, Out.then_rt, Out.then_ct, Out.then_bk, fin_rt, fin_nx, List.getElem?_cons_zero, List.getElem?_cons_succ, List.set_cons_succ, List.set_cons_zero, List.length_cons, List.length_nil, Nat.reduceAdd, Nat.reduceLT, Nat.reduceLeDiff, Nat.reduceEqDiff, if_true, if_false, Bool.false_eq_true, Bool.not_true, Bool.not_false, and_self, true_and, and_true, List.map_cons, List.map_nil, Option.map_some, sh_int, sh_bool, sh_none, sh_tup, sh_lst, eqv_int, reduceIte, Option.bind_some, Option.bind_none, kitB_ll, kitB_lt, kitB_tt, kitB_tl, kitB_ii, tyD_list, tyD_int, Bool.true_and, Bool.false_and, Bool.and_true, Bool.and_false, Bool.or_true, Bool.true_or, Bool.false_or, Bool.or_false, Bool.and_self, Bool.or_self, e_cAK, List.append_nil, List.nil_append, List.cons_append, e_andB, e_orB, e_andR, e_orR, tyD_tuple, eqv_bool, eqv_none, tyD_bool, tyD_str, tyD_none, kitB_bb, kitB_nb, kitB_bi, kitB_ib, kitB_nl, kitB_nt, beq_self_eq_true, x1, x2, p1, s1, s2, ev])
    cases e : (List.range' 1 (cs.length - 1)).findSome? g with
    | some d =>
      rw [e] at lp
      obtain ⟨p, hp, hd⟩ := List.exists_of_findSome?_eq_some e
      have hp := List.mem_range'_1.mp hp
      have hp1 : p - 1 < cs.length := by omega
      have hp2 : p < cs.length := by omega
      rw [hgd] at hd
      simp only [List.getElem?_eq_getElem hp1, List.getElem?_eq_getElem hp2, Option.map_some, Option.some.injEq] at hd
      split at hd
      · rename_i c
        cases hd
        have split : cs = cs.take (p - 1) ++ ([cs[p - 1], (cs[p - 1]).opp] ++ cs.drop (p + 1)) := by
          rw [← c]
          have h1 : cs.drop (p - 1) = cs[p - 1] :: cs.drop p := by
            have := List.drop_eq_getElem_cons hp1
            rwa [show p - 1 + 1 = p by omega] at this
          have h2 : cs.drop p = cs[p] :: cs.drop (p + 1) := List.drop_eq_getElem_cons hp2
          have h3 := (List.take_append_drop (p - 1) cs).symm
          rw [h1, h2] at h3
          exact h3
        have hc : canI cs = canI (cs.take (p - 1) ++ cs.drop (p + 1)) := by
          have := can_pair (cs.take (p - 1)) (cs.drop (p + 1)) cs[p - 1]
          rw [← split] at this
          exact this
        rw [hc]
        have lp : loopF (.nm 1) (L0__law_due (FN__law_due k)) ((List.range' 1 (cs.length - 1)).map natI) [some (.d (.list (cs.map Ins.d))), none] = .rt (.d (.list ((canI (cs.take (p - 1) ++ cs.drop (p + 1))).map Ins.d))) := lp
        generalize PyData.list (cs.map Ins.d) = CC at *
        unfold B__law_due
        simp only [e_nil, e_seq, e_fz, e_bk, e_ct, e_ret, e_retN, e_drop, e_set, e_if, e_for, e_cC, e_c2, e_c1, e_cA, e_aN, e_aC, e_cB, e_asB, e_bNot, e_bAnd, e_bOr, e_vAnd, e_vOr, e_vNot, e_vIf, e_bYes, e_iL, e_iT, e_iLb, e_iR, e_gL1, e_gL2, e_gL3, e_gT, e_gLb1, e_gLb2, e_gLb3, e_gLb4, e_nb1, e_nb2, e_bor1, e_bor2, e_bor3, e_bor4, e_arg1, e_arg2, e_arg3, e_arg4, e_putd, e_puto, e_toD1, e_toD2, e_allD0, e_allD1, e_allD2, e_gTupl, e_gList, e_tgnm, e_tgtp, e_tg0, e_tg1, e_sq1, e_sq2, e_sq3, e_sq4, e_sq5, e_qv2, e_qv3, e_qv4, e_qv5, e_data1, e_data2, e_data3, e_okI, e_okB, e_i2, e_sub, e_mul, e_mod, e_div, e_pow, e_lt, e_le, e_gt, e_ge, e_neg, e_addI, e_addS, e_addT, e_addL1, e_addL2, e_addL3, e_addL4, e_addL5, e_addL6, e_addL7, e_addL8, e_addL9, e_eq, e_ne, e_in, e_notIn, e_inT, e_inT2, e_inL1, e_inL2, e_inL3, e_is, e_isNot, e_isN1, e_isN2, e_isN3, e_isN4, e_isN5, e_isN6, e_isN7, e_ixT, e_ixL, e_ixO, e_ixB, e_ixSc, e_lenT, e_lenL, e_lenO, e_lenB, e_lenSc, e_lenS, e_tupT, e_tupL, e_tupO, e_tupB, e_lisT, e_lisL, e_lisO, e_lisB, e_min2, e_max2, e_any, e_all, e_sum, e_sorted, e_rev, e_sl, e_oN, e_isi, e_lc, e_wipe0, e_wipe1, e_iA, e_iAb, e_gAq1, e_gAq2, e_gAq3, e_gAqb1, e_gAqb2, e_gAqb3, e_gAqb4, e_no, e_cCh, e_cChI, e_aug, e_decT, e_decF, e_cDispS, e_cDT, e_cDK, e_cDisp1, e_storeA, e_stR1, e_stR2, e_stR3, e_sd1, e_keyD1, e_keyD2, e_keyTD, e_intsD, e_intsD0, e_borT, e_borT2, e_borK, e_borK2, e_argT, e_argT2, e_argK, e_argK2, e_nbT, e_nbK, e_putT, e_putK, e_gAt1, e_gAt2, e_gAt3, e_gAt4, e_gGetDK, e_gGetDT, e_gIxD, e_gInD, e_gNotInD, e_cGet1, e_cGet2, e_dk1, e_dk2, e_dk3, e_dk4, e_dt1, e_dt2, e_del, atI_zero, e_at1, e_at2, e_at3, e_at4, e_at5, e_at6, e_at7, e_at8, e_at9, e_atm, e_V, e_retV, e_unp, e_app, e_store, e_fzE, oS, rsO_some, Rs.bind_ok, Rs.bind_no, Rs.out_ok, Out.then_nx, Out.then_rt, Out.then_ct, Out.then_bk, fin_rt, fin_nx, List.getElem?_cons_zero, List.getElem?_cons_succ, List.set_cons_succ, List.set_cons_zero, List.length_cons, List.length_nil, Nat.reduceAdd, Nat.reduceLT, Nat.reduceLeDiff, Nat.reduceEqDiff, if_true, if_false, Bool.false_eq_true, Bool.not_true, Bool.not_false, and_self, true_and, and_true, List.map_cons, List.map_nil, Option.map_some, sh_int, sh_bool, sh_none, sh_tup, sh_lst, eqv_int, reduceIte, Option.bind_some, Option.bind_none, kitB_ll, kitB_lt, kitB_tt, kitB_tl, kitB_ii, tyD_list, tyD_int, Bool.true_and, Bool.false_and, Bool.and_true, Bool.and_false, Bool.or_true, Bool.true_or, Bool.false_or, Bool.or_false, Bool.and_self, Bool.or_self, e_cAK, List.append_nil, List.nil_append, List.cons_append, e_andB, e_orB, e_andR, e_orR, tyD_tuple, eqv_bool, eqv_none, tyD_bool, tyD_str, tyD_none, kitB_bb, kitB_nb, kitB_bi, kitB_ib, kitB_nl, kitB_nt, beq_self_eq_true, hln, hr, lp]
      · cases hd
    | none =>
      rw [e] at lp
      obtain ⟨_, lp, j1, rfl⟩ := lp
      have hc : canI cs = cs := can_keep fun p c d h1 h2 => by
        have hp := (List.getElem?_eq_some_iff.mp h2).1
        have := List.findSome?_eq_none_iff.mp e (p + 1) (List.mem_range'_1.mpr ⟨by omega, by omega⟩)
        rw [hgd] at this
        simp only [Nat.add_sub_cancel, h1, h2, Option.map_some, Option.some.injEq] at this
        intro z
        rw [if_pos z] at this
        cases this
      rw [hc]
      generalize PyData.list (cs.map Ins.d) = CC at *
      unfold B__law_due
      simp only [e_nil, e_seq, e_fz, e_bk, e_ct, e_ret, e_retN, e_drop, e_set, e_if, e_for, e_cC, e_c2, e_c1, e_cA, e_aN, e_aC, e_cB, e_asB, e_bNot, e_bAnd, e_bOr, e_vAnd, e_vOr, e_vNot, e_vIf, e_bYes, e_iL, e_iT, e_iLb, e_iR, e_gL1, e_gL2, e_gL3, e_gT, e_gLb1, e_gLb2, e_gLb3, e_gLb4, e_nb1, e_nb2, e_bor1, e_bor2, e_bor3, e_bor4, e_arg1, e_arg2, e_arg3, e_arg4, e_putd, e_puto, e_toD1, e_toD2, e_allD0, e_allD1, e_allD2, e_gTupl, e_gList, e_tgnm, e_tgtp, e_tg0, e_tg1, e_sq1, e_sq2, e_sq3, e_sq4, e_sq5, e_qv2, e_qv3, e_qv4, e_qv5, e_data1, e_data2, e_data3, e_okI, e_okB, e_i2, e_sub, e_mul, e_mod, e_div, e_pow, e_lt, e_le, e_gt, e_ge, e_neg, e_addI, e_addS, e_addT, e_addL1, e_addL2, e_addL3, e_addL4, e_addL5, e_addL6, e_addL7, e_addL8, e_addL9, e_eq, e_ne, e_in, e_notIn, e_inT, e_inT2, e_inL1, e_inL2, e_inL3, e_is, e_isNot, e_isN1, e_isN2, e_isN3, e_isN4, e_isN5, e_isN6, e_isN7, e_ixT, e_ixL, e_ixO, e_ixB, e_ixSc, e_lenT, e_lenL, e_lenO, e_lenB, e_lenSc, e_lenS, e_tupT, e_tupL, e_tupO, e_tupB, e_lisT, e_lisL, e_lisO, e_lisB, e_min2, e_max2, e_any, e_all, e_sum, e_sorted, e_rev, e_sl, e_oN, e_isi, e_lc, e_wipe0, e_wipe1, e_iA, e_iAb, e_gAq1, e_gAq2, e_gAq3, e_gAqb1, e_gAqb2, e_gAqb3, e_gAqb4, e_no, e_cCh, e_cChI, e_aug, e_decT, e_decF, e_cDispS, e_cDT, e_cDK, e_cDisp1, e_storeA, e_stR1, e_stR2, e_stR3, e_sd1, e_keyD1, e_keyD2, e_keyTD, e_intsD, e_intsD0, e_borT, e_borT2, e_borK, e_borK2, e_argT, e_argT2, e_argK, e_argK2, e_nbT, e_nbK, e_putT, e_putK, e_gAt1, e_gAt2, e_gAt3, e_gAt4, e_gGetDK, e_gGetDT, e_gIxD, e_gInD, e_gNotInD, e_cGet1, e_cGet2, e_dk1, e_dk2, e_dk3, e_dk4, e_dt1, e_dt2, e_del, atI_zero, e_at1, e_at2, e_at3, e_at4, e_at5, e_at6, e_at7, e_at8, e_at9, e_atm, e_V, e_retV, e_unp, e_app, e_store, e_fzE, oS, rsO_some, Rs.bind_ok, Rs.bind_no, Rs.out_ok, Out.then_nx, Out.then_rt, Out.then_ct, Out.then_bk, fin_rt, fin_nx, List.getElem?_cons_zero, List.getElem?_cons_succ, List.set_cons_succ, List.set_cons_zero, List.length_cons, List.length_nil, Nat.reduceAdd, Nat.reduceLT, Nat.reduceLeDiff, Nat.reduceEqDiff, if_true, if_false, Bool.false_eq_true, Bool.not_true, Bool.not_false, and_self, true_and, and_true, List.map_cons, List.map_nil, Option.map_some, sh_int, sh_bool, sh_none, sh_tup, sh_lst, eqv_int, reduceIte, Option.bind_some, Option.bind_none, kitB_ll, kitB_lt, kitB_tt, kitB_tl, kitB_ii, tyD_list, tyD_int, Bool.true_and, Bool.false_and, Bool.and_true, Bool.and_false, Bool.or_true, Bool.true_or, Bool.false_or, Bool.or_false, Bool.and_self, Bool.or_self, e_cAK, List.append_nil, List.nil_append, List.cons_append, e_andB, e_orB, e_andR, e_orR, tyD_tuple, eqv_bool, eqv_none, tyD_bool, tyD_str, tyD_none, kitB_bb, kitB_nb, kitB_bi, kitB_ib, kitB_nl, kitB_nt, beq_self_eq_true, hln, hr, lp]
theorem code_eqv {n m : Nat} (hn : n ≤ 100000) (hm : m ≤ 100000) (cs : List Ins) : SeqAt.shaped (.list (cs.map Ins.d)) = true ∧ PyData.eqv (.list (cs.map Ins.d)) (.list (cs.map Ins.d)) = true := ⟨(code_nice cs).shaped (by decide), (code_nice cs).refl⟩
theorem law_holds (ns : List Int) (h : ns.length ≤ 63) : F_law [.sc ns] = .ok (.d (.bool true)) := by
  obtain ⟨tm, hm, hr⟩ := turns2 ns h 10 6 (by omega) (by omega) (by omega) (by omega) [some (.sc ns), none, none, none, none, none, none, none, none, none, none, none] rfl
  obtain ⟨env', e1, j1, j2, j3, j4, j5, j6, j7, j8, j9, j10, j11, rfl⟩ := loopF_ex (tg := .nm 1) (f := L1_law) (fun i env => ∃ j1 j2 j3 j4 j5 j6 j7 j8 j9 j10 j11, env = [some (.sc ns), j1, j2, j3, j4, j5, j6, j7, j8, j9, j10, j11]) natI (List.range tm) [some (.sc ns), none, none, none, none, none, none, none, none, none, none, none] (by
    rintro i env x hx ⟨j1, j2, j3, j4, j5, j6, j7, j8, j9, j10, j11, rfl⟩
    refine ⟨[some (.sc ns), some (.d (.int x)), j2, j3, j4, j5, j6, j7, j8, j9, j10, j11], rfl, ?_⟩
    have mulOk : (6 : Int).natAbs < 18446744073709551616 ∨ ((x : Int)).natAbs < 18446744073709551616 := .inl (by decide)
    obtain ⟨m, n, ss, os, p1, m1, m2, n1, n2, _, _, _, _⟩ := program_ok ns (6 * x) 3 (by omega) (by omega)
    obtain ⟨cs, p2, g, hc⟩ := random_ok ns (6 * x + 1) 6 m n (.tuple (ss.map Stp.d)) (.tuple (os.map natI)) (by omega) (by omega) (by omega) (by omega) (by omega) (by omega)
    obtain ⟨ds, p3, l3, b3⟩ := regs_draw ns (6 * x + 2) 6 20 (by omega) (by omega) (by omega)
    obtain ⟨rs, p4, gr, hrl⟩ := random_ok ns (6 * x + 3) 4 m n (.tuple (ss.map Stp.d)) (.tuple (os.map natI)) (by omega) (by omega) (by omega) (by omega) (by omega) (by omega)
    obtain ⟨regs, p5, q1, q2⟩ := regs_draw ns (6 * x + 4) 8 m (by omega) (by omega) (by omega)
    obtain ⟨ins, p6, i1, i2⟩ := inputs_ok ns (6 * x + 5) m n (.tuple (ss.map Stp.d)) (.tuple (os.map natI)) (by omega) (by omega) (by omega)
    have r6 := rep_ok 6 20 (by omega)
    have r8 := rep_ok 8 m (by omega)
    have k0 : 6 * (x : Int) = ((6 * x : Nat) : Int) := by omega
    have k1 : ((6 * x : Nat) : Int) + 1 = ((6 * x + 1 : Nat) : Int) := by omega
    have k2 : ((6 * x : Nat) : Int) + 2 = ((6 * x + 2 : Nat) : Int) := by omega
    have k3 : ((6 * x : Nat) : Int) + 3 = ((6 * x + 3 : Nat) : Int) := by omega
    have k4 : ((6 * x : Nat) : Int) + 4 = ((6 * x + 4 : Nat) : Int) := by omega
    have k5 : ((6 * x : Nat) : Int) + 5 = ((6 * x + 5 : Nat) : Int) := by omega
    have r6 : gRep (.ol [.int 20]) (.d (.int 6)) = .ok (.ol ((List.replicate 6 20).map natI)) := r6
    have r8 : gRep (.ol [.int (m : Int)]) (.d (.int 8)) = .ok (.ol ((List.replicate 8 m).map natI)) := r8
    have p1 : F__law_program [.sc ns, .d (.int ((6 * x : Nat) : Int)), .d (.int 3)] = .ok (.d (progD m n (.tuple (ss.map Stp.d)) (.tuple (os.map natI)))) := p1
    have p2 : F__law_random [.sc ns, .d (.int ((6 * x + 1 : Nat) : Int)), .d (progD m n (.tuple (ss.map Stp.d)) (.tuple (os.map natI))), .d (.int 6)] = .ok (.ol (cs.map Ins.d)) := p2
    have p4 : F__law_random [.sc ns, .d (.int ((6 * x + 3 : Nat) : Int)), .d (progD m n (.tuple (ss.map Stp.d)) (.tuple (os.map natI))), .d (.int 4)] = .ok (.ol (rs.map Ins.d)) := p4
    have n6 : n ≤ 100000 := by omega
    have m6 : m ≤ 100000 := by omega
    have hp0 : gIx (.d (progD m n (.tuple (ss.map Stp.d)) (.tuple (os.map natI)))) (.d (.int 0)) = .ok (.d (.int m)) := rfl
    have hlr : (rs.map Ins.d).length = rs.length := List.length_map ..
    have hrn := e_R1n (n := rs.length) (by omega)
    rw [rng_nat] at hrn
    -- the inner loop
    have inner : ∀ (e2 : Option RV) (j7 j8 j9 j10 j11 : Option RV), ∃ (mo : List Ins) (g7 g8 : Option RV), loopF (.nm 7) L0_law ((List.range rs.length).map natI) [some (.sc ns), some (.d (.int x)), e2, some (.ol (cs.map Ins.d)), some (.ol (cs.map Ins.d)), some (.ol (ds.map .int)), some (.ol (rs.map Ins.d)), j7, j8, j9, j10, j11] = .nx [some (.sc ns), some (.d (.int x)), e2, some (.ol (cs.map Ins.d)), some (.ol (mo.map Ins.d)), some (.ol (ds.map .int)), some (.ol (rs.map Ins.d)), g7, g8, j9, j10, j11] ∧ (∀ i ∈ mo, i.good n m) ∧ canI mo = canI cs ∧ mo.length = cs.length + 2 * rs.length := by
      intro e2 j7 j8 j9 j10 j11
      obtain ⟨env', e1, mo, g7, g8, rfl, h1, h2, h3⟩ := loopF_ex (tg := .nm 7) (f := L0_law) (fun k env => ∃ (mo : List Ins) (g7 g8 : Option RV), env = [some (.sc ns), some (.d (.int x)), e2, some (.ol (cs.map Ins.d)), some (.ol (mo.map Ins.d)), some (.ol (ds.map .int)), some (.ol (rs.map Ins.d)), g7, g8, j9, j10, j11] ∧ (∀ i ∈ mo, i.good n m) ∧ canI mo = canI cs ∧ mo.length = cs.length + 2 * k) natI (List.range rs.length) [some (.sc ns), some (.d (.int x)), e2, some (.ol (cs.map Ins.d)), some (.ol (cs.map Ins.d)), some (.ol (ds.map .int)), some (.ol (rs.map Ins.d)), j7, j8, j9, j10, j11] (by
        rintro k env j hj ⟨mo, g7, g8, rfl, h1, h2, h3⟩
        obtain ⟨rfl, hk⟩ := range_at hj
        have hkd : j < ds.length := by omega
        refine ⟨[some (.sc ns), some (.d (.int x)), e2, some (.ol (cs.map Ins.d)), some (.ol (mo.map Ins.d)), some (.ol (ds.map .int)), some (.ol (rs.map Ins.d)), some (.d (.int (j : Int))), g8, j9, j10, j11], rfl, ?_⟩
        have hd0 := b3.all ds[j] (List.getElem_mem hkd)
        obtain ⟨pl, hpl⟩ : ∃ pl : Nat, pl = (ds[j]).toNat % (mo.length + 1) := ⟨_, rfl⟩
        have hpl2 : pl ≤ mo.length := by have := Nat.mod_lt (ds[j]).toNat (show 0 < mo.length + 1 by omega); omega
        have x1 : atI (ds.map PyData.int) (j : Int) = some (.int ds[j]) := by rw [atI_cons _ _ (by rw [List.length_map]; exact hkd), List.getElem?_map, List.getElem?_eq_getElem hkd]; rfl
        have x2 : atI (rs.map Ins.d) (j : Int) = some (rs[j]).d := by rw [atI_cons _ _ (by rw [List.length_map]; exact hk), List.getElem?_map, List.getElem?_eq_getElem hk]; rfl
        have md : gMod (.d (.int ds[j])) (.d (.int ((mo.length : Int) + 1))) = .ok (.d (.int (pl : Int))) := by
          have := e_modN (ds[j]).toNat (mo.length + 1) (by omega)
          rw [← hpl] at this
          rw [show (((ds[j]).toNat : Nat) : Int) = ds[j] by omega] at this
          exact this
        have po := other_ok rs[j]
        have c1 : cutL (mo.map Ins.d) none (some (pl : Int)) = (mo.take pl).map Ins.d := by rw [cut_take, List.map_take]
        have c2' : cutL (mo.map Ins.d) (some (pl : Int)) none = (mo.drop pl).map Ins.d := by rw [cut_drop, List.map_drop]
        have lz : (mo.take pl).length + (mo.drop pl).length = mo.length := by rw [List.length_take, List.length_drop]; omega
        refine ⟨[some (.sc ns), some (.d (.int x)), e2, some (.ol (cs.map Ins.d)), some (.ol ((mo.take pl ++ ([rs[j], (rs[j]).opp] ++ mo.drop pl)).map Ins.d)), some (.ol (ds.map .int)), some (.ol (rs.map Ins.d)), some (.d (.int (j : Int))), some (.d (.int (pl : Int))), j9, j10, j11], .inl ?_, _, _, _, rfl, ?_, ?_, ?_⟩
        · have hmo : (mo.take pl ++ ([rs[j], (rs[j]).opp] ++ mo.drop pl)).map Ins.d = (mo.take pl).map Ins.d ++ [(rs[j]).d, (rs[j]).opp.d] ++ (mo.drop pl).map Ins.d := by
            rw [List.map_append, List.map_append, List.append_assoc]
            rfl
          rw [hmo]
          have hz1 : ((mo.take pl).map Ins.d).length + 1 + 1 ≤ 1000000 := by rw [List.length_map]; omega
          have hz2 : ((mo.take pl).map Ins.d).length + 1 + 1 + ((mo.drop pl).map Ins.d).length ≤ 1000000 := by rw [List.length_map, List.length_map]; omega
          have hz3 : ((mo.take pl).map Ins.d).length ≤ 999998 := by omega
          have hlm : (mo.map Ins.d).length = mo.length := List.length_map ..
          have sl : ∀ lo hi, gSl (.bl (mo.map Ins.d)) lo hi = .ok (.ol (cutL (mo.map Ins.d) lo hi)) := fun _ _ => rfl
          generalize (rs[j]).opp.d = OO at *
          generalize (rs[j]).d = QQ at *
          generalize (mo.take pl).map Ins.d = AA at *
          generalize (mo.drop pl).map Ins.d = BB at *
          generalize mo.map Ins.d = MM at *
          generalize ds.map PyData.int = DD at *
          generalize rs.map Ins.d = RR at *
          generalize cs.map Ins.d = CC at *
          unfold L0_law
          simp only [e_nil, e_seq, e_fz, e_bk, e_ct, e_ret, e_retN, e_drop, e_set, e_if, e_for, e_cC, e_c2, e_c1, e_cA, e_aN, e_aC, e_cB, e_asB, e_bNot, e_bAnd, e_bOr, e_vAnd, e_vOr, e_vNot, e_vIf, e_bYes, e_iL, e_iT, e_iLb, e_iR, e_gL1, e_gL2, e_gL3, e_gT, e_gLb1, e_gLb2, e_gLb3, e_gLb4, e_nb1, e_nb2, e_bor1, e_bor2, e_bor3, e_bor4, e_arg1, e_arg2, e_arg3, e_arg4, e_putd, e_puto, e_toD1, e_toD2, e_allD0, e_allD1, e_allD2, e_gTupl, e_gList, e_tgnm, e_tgtp, e_tg0, e_tg1, e_sq1, e_sq2, e_sq3, e_sq4, e_sq5, e_qv2, e_qv3, e_qv4, e_qv5, e_data1, e_data2, e_data3, e_okI, e_okB, e_i2, e_sub, e_mul, e_mod, e_div, e_pow, e_lt, e_le, e_gt, e_ge, e_neg, e_addI, e_addS, e_addT, e_addL1, e_addL2, e_addL3, e_addL4, e_addL5, e_addL6, e_addL7, e_addL8, e_addL9, e_eq, e_ne, e_in, e_notIn, e_inT, e_inT2, e_inL1, e_inL2, e_inL3, e_is, e_isNot, e_isN1, e_isN2, e_isN3, e_isN4, e_isN5, e_isN6, e_isN7, e_ixT, e_ixL, e_ixO, e_ixB, e_ixSc, e_lenT, e_lenL, e_lenO, e_lenB, e_lenSc, e_lenS, e_tupT, e_tupL, e_tupO, e_tupB, e_lisT, e_lisL, e_lisO, e_lisB, e_min2, e_max2, e_any, e_all, e_sum, e_sorted, e_rev, e_sl, e_oN, e_isi, e_lc, e_wipe0, e_wipe1, e_iA, e_iAb, e_gAq1, e_gAq2, e_gAq3, e_gAqb1, e_gAqb2, e_gAqb3, e_gAqb4, e_no, e_cCh, e_cChI, e_aug, e_decT, e_decF, e_cDispS, e_cDT, e_cDK, e_cDisp1, e_storeA, e_stR1, e_stR2, e_stR3, e_sd1, e_keyD1, e_keyD2, e_keyTD, e_intsD, e_intsD0, e_borT, e_borT2, e_borK, e_borK2, e_argT, e_argT2, e_argK, e_argK2, e_nbT, e_nbK, e_putT, e_putK, e_gAt1, e_gAt2, e_gAt3, e_gAt4, e_gGetDK, e_gGetDT, e_gIxD, e_gInD, e_gNotInD, e_cGet1, e_cGet2, e_dk1, e_dk2, e_dk3, e_dk4, e_dt1, e_dt2, e_del, atI_zero, e_at1, e_at2, e_at3, e_at4, e_at5, e_at6, e_at7, e_at8, e_at9, e_atm, e_V, e_retV, e_unp, e_app, e_store, e_fzE, oS, rsO_some, Rs.bind_ok, Rs.bind_no, Rs.out_ok, Out.then_nx, Out.then_rt, Out.then_ct, Out.then_bk, fin_rt, fin_nx, List.getElem?_cons_zero, List.getElem?_cons_succ, List.set_cons_succ, List.set_cons_zero, List.length_cons, List.length_nil, Nat.reduceAdd, Nat.reduceLT, Nat.reduceLeDiff, Nat.reduceEqDiff, if_true, if_false, Bool.false_eq_true, Bool.not_true, Bool.not_false, and_self, true_and, and_true, List.map_cons, List.map_nil, Option.map_some, sh_int, sh_bool, sh_none, sh_tup, sh_lst, eqv_int, reduceIte, Option.bind_some, Option.bind_none, kitB_ll, kitB_lt, kitB_tt, kitB_tl, kitB_ii, tyD_list, tyD_int, Bool.true_and, Bool.false_and, Bool.and_true, Bool.and_false, Bool.or_true, Bool.true_or, Bool.false_or, Bool.or_false, Bool.and_self, Bool.or_self, e_cAK, List.append_nil, List.nil_append, List.cons_append, e_andB, e_orB, e_andR, e_orR, tyD_tuple, eqv_bool, eqv_none, tyD_bool, tyD_str, tyD_none, kitB_bb, kitB_nb, kitB_bi, kitB_ib, kitB_nl, kitB_nt, beq_self_eq_true, x1, x2, hlm, md, sl, c1, c2', po, List.length_append, if_pos hz1, if_pos hz2, if_pos hz3]
        · intro i hi
          have gj := gr _ (List.getElem_mem hk)
          rcases List.mem_append.mp hi with z | z
          · exact h1 i (List.mem_of_mem_take z)
          · rcases List.mem_append.mp z with z | z
            · rcases List.mem_cons.mp z with z | z
              · rw [z]; exact gj
              · rw [List.mem_singleton.mp z]; exact gj.opp
            · exact h1 i (List.mem_of_mem_drop z)
        · rw [can_pair, List.take_append_drop, h2]
        · simp only [List.length_append, List.length_cons, List.length_nil]
          omega) ⟨cs, j7, j8, rfl, g, rfl, by omega⟩
      rw [List.length_range] at h3
      exact ⟨mo, g7, g8, e1, h1, h2, h3⟩
    obtain ⟨mo, g7, g8, hin, gm, cm, lm⟩ := inner (some (.d (progD m n (.tuple (ss.map Stp.d)) (.tuple (os.map natI))))) j7 j8 j9 j10 j11
    have u1 := cancelled_ok n6 m6 mo gm (by omega)
    have u2 := cancelled_ok n6 m6 cs g (by omega)
    have gcan : ∀ i ∈ canI cs, i.good n m := fun i hi => g i (can_mem hi)
    have lcan := can_len cs
    have u3 := cancelled_ok n6 m6 (canI cs) gcan (by omega)
    have u4 := due_ok n6 m6 9 mo gm (by omega) (by omega)
    have u4 : F__law_due [.d (.list (mo.map Ins.d))] = _ := u4
    rw [can_can] at u3
    rw [cm] at u1 u4
    obtain ⟨s1, v1⟩ := code_eqv n6 m6 (canI cs)
    have ok1 : ∀ i ∈ cs, i.ok n := fun i hi => (g i hi).ok n6 m6
    have ok2 : ∀ i ∈ canI cs, i.ok n := fun i hi => (gcan i hi).ok n6 m6
    have w1 := run_ok (m := m) (n := n) (st := .tuple (ss.map Stp.d)) (out := .tuple (os.map natI)) (by omega) (by omega) (canI cs) ok2 (a := .d (.list (ins.map .int))) (b := .d (.list (regs.map .int))) (.inl rfl) (.inl rfl) i1 q1 i2 q2
    have w2 := after_ok (m := m) (n := n) (st := .tuple (ss.map Stp.d)) (out := .tuple (os.map natI)) (by omega) (by omega) cs ok1 (a := .d (.list (ins.map .int))) (b := .d (.list (regs.map .int))) (.inl rfl) (.inl rfl) i1 q1 i2 q2
    have hrun : runM m ins (canI cs) regs = runM m ins cs regs := run_can (n := n) (m := m) (by omega) cs [] regs (fun i hi => by cases hi) g q1 q2
    rw [hrun] at w1
    have hz : (cs.map Ins.d).length ≤ 1000000 := by rw [List.length_map]; omega
    have s2 := sh_lst (runM m ins cs regs)
    have v2 := eqv_lst (runM m ins cs regs) (runM m ins cs regs)
    rw [decide_eq_true rfl] at v2
    generalize hX : L1_law _ = X
    unfold L1_law at hX
    generalize progD m n (.tuple (ss.map Stp.d)) (.tuple (os.map natI)) = PP at *
    generalize (runM m ins cs regs).map PyData.int = XX at *
    generalize ds.map PyData.int = DD at *
    generalize regs.map PyData.int = GG at *
    generalize ins.map PyData.int = II at *
    generalize rs.map Ins.d = RR at *
    generalize (canI cs).map Ins.d = NN at *
    generalize mo.map Ins.d = MM at *
    generalize cs.map Ins.d = CC at *
    simp only [e_nil, e_seq, e_fz, e_bk, e_ct, e_ret, e_retN, e_drop, e_set, e_if, e_for, e_cC, e_c2, e_c1, e_cA, e_aN, e_aC, e_cB, e_asB, e_bNot, e_bAnd, e_bOr, e_vAnd, e_vOr, e_vNot, e_vIf, e_bYes, e_iL, e_iT, e_iLb, e_iR, e_gL1, e_gL2, e_gL3, e_gT, e_gLb1, e_gLb2, e_gLb3, e_gLb4, e_nb1, e_nb2, e_bor1, e_bor2, e_bor3, e_bor4, e_arg1, e_arg2, e_arg3, e_arg4, e_putd, e_puto, e_toD1, e_toD2, e_allD0, e_allD1, e_allD2, e_gTupl, e_gList, e_tgnm, e_tgtp, e_tg0, e_tg1, e_sq1, e_sq2, e_sq3, e_sq4, e_sq5, e_qv2, e_qv3, e_qv4, e_qv5, e_data1, e_data2, e_data3, e_okI, e_okB, e_i2, e_sub, e_mul, e_mod, e_div, e_pow, e_lt, e_le, e_gt, e_ge, e_neg, e_addI, e_addS, e_addT, e_addL1, e_addL2, e_addL3, e_addL4, e_addL5, e_addL6, e_addL7, e_addL8, e_addL9, e_eq, e_ne, e_in, e_notIn, e_inT, e_inT2, e_inL1, e_inL2, e_inL3, e_is, e_isNot, e_isN1, e_isN2, e_isN3, e_isN4, e_isN5, e_isN6, e_isN7, e_ixT, e_ixL, e_ixO, e_ixB, e_ixSc, e_lenT, e_lenL, e_lenO, e_lenB, e_lenSc, e_lenS, e_tupT, e_tupL, e_tupO, e_tupB, e_lisT, e_lisL, e_lisO, e_lisB, e_min2, e_max2, e_any, e_all, e_sum, e_sorted, e_rev, e_sl, e_oN, e_isi, e_lc, e_wipe0, e_wipe1, e_iA, e_iAb, e_gAq1, e_gAq2, e_gAq3, e_gAqb1, e_gAqb2, e_gAqb3, e_gAqb4, e_no, e_cCh, e_cChI, e_aug, e_decT, e_decF, e_cDispS, e_cDT, e_cDK, e_cDisp1, e_storeA, e_stR1, e_stR2, e_stR3, e_sd1, e_keyD1, e_keyD2, e_keyTD, e_intsD, e_intsD0, e_borT, e_borT2, e_borK, e_borK2, e_argT, e_argT2, e_argK, e_argK2, e_nbT, e_nbK, e_putT, e_putK, e_gAt1, e_gAt2, e_gAt3, e_gAt4, e_gGetDK, e_gGetDT, e_gIxD, e_gInD, e_gNotInD, e_cGet1, e_cGet2, e_dk1, e_dk2, e_dk3, e_dk4, e_dt1, e_dt2, e_del, atI_zero, e_at1, e_at2, e_at3, e_at4, e_at5, e_at6, e_at7, e_at8, e_at9, e_atm, e_V, e_retV, e_unp, e_app, e_store, e_fzE, oS, rsO_some, Rs.bind_ok, Rs.bind_no, Rs.out_ok, Out.then_nx, Out.then_rt, Out.then_ct, Out.then_bk, fin_rt, fin_nx, List.getElem?_cons_zero, List.getElem?_cons_succ, List.set_cons_succ, List.set_cons_zero, List.length_cons, List.length_nil, Nat.reduceAdd, Nat.reduceLT, Nat.reduceLeDiff, Nat.reduceEqDiff, if_true, if_false, Bool.false_eq_true, Bool.not_true, Bool.not_false, and_self, true_and, and_true, List.map_cons, List.map_nil, Option.map_some, sh_int, sh_bool, sh_none, sh_tup, sh_lst, eqv_int, reduceIte, Option.bind_some, Option.bind_none, kitB_ll, kitB_lt, kitB_tt, kitB_tl, kitB_ii, tyD_list, tyD_int, Bool.true_and, Bool.false_and, Bool.and_true, Bool.and_false, Bool.or_true, Bool.true_or, Bool.false_or, Bool.or_false, Bool.and_self, Bool.or_self, e_cAK, List.append_nil, List.nil_append, List.cons_append, e_andB, e_orB, e_andR, e_orR, tyD_tuple, eqv_bool, eqv_none, tyD_bool, tyD_str, tyD_none, kitB_bb, kitB_nb, kitB_bi, kitB_ib, kitB_nl, kitB_nt, beq_self_eq_true, if_pos mulOk, k0, k1, k2, k3, k4, k5, p1, p2, if_pos hz, r6, p3, p4, hlr, hrn, hin, u1, u2, u3, u4, s1, v1, hp0, r8, p5, p6, w1, w2, s2, v2] at hX
    subst hX
    exact ⟨_, .inl rfl, _, _, _, _, _, _, _, _, _, _, _, rfl⟩) ⟨none, none, none, none, none, none, none, none, none, none, none, rfl⟩
  show (sSeq _ _ [some (.sc ns), none, none, none, none, none, none, none, none, none, none, none]).fin = _
  rw [e_seq, e_for, hr, Rs.out_ok, e1]
  simp only [e_nil, e_seq, e_fz, e_bk, e_ct, e_ret, e_retN, e_drop, e_set, e_if, e_for, e_cC, e_c2, e_c1, e_cA, e_aN, e_aC, e_cB, e_asB, e_bNot, e_bAnd, e_bOr, e_vAnd, e_vOr, e_vNot, e_vIf, e_bYes, e_iL, e_iT, e_iLb, e_iR, e_gL1, e_gL2, e_gL3, e_gT, e_gLb1, e_gLb2, e_gLb3, e_gLb4, e_nb1, e_nb2, e_bor1, e_bor2, e_bor3, e_bor4, e_arg1, e_arg2, e_arg3, e_arg4, e_putd, e_puto, e_toD1, e_toD2, e_allD0, e_allD1, e_allD2, e_gTupl, e_gList, e_tgnm, e_tgtp, e_tg0, e_tg1, e_sq1, e_sq2, e_sq3, e_sq4, e_sq5, e_qv2, e_qv3, e_qv4, e_qv5, e_data1, e_data2, e_data3, e_okI, e_okB, e_i2, e_sub, e_mul, e_mod, e_div, e_pow, e_lt, e_le, e_gt, e_ge, e_neg, e_addI, e_addS, e_addT, e_addL1, e_addL2, e_addL3, e_addL4, e_addL5, e_addL6, e_addL7, e_addL8, e_addL9, e_eq, e_ne, e_in, e_notIn, e_inT, e_inT2, e_inL1, e_inL2, e_inL3, e_is, e_isNot, e_isN1, e_isN2, e_isN3, e_isN4, e_isN5, e_isN6, e_isN7, e_ixT, e_ixL, e_ixO, e_ixB, e_ixSc, e_lenT, e_lenL, e_lenO, e_lenB, e_lenSc, e_lenS, e_tupT, e_tupL, e_tupO, e_tupB, e_lisT, e_lisL, e_lisO, e_lisB, e_min2, e_max2, e_any, e_all, e_sum, e_sorted, e_rev, e_sl, e_oN, e_isi, e_lc, e_wipe0, e_wipe1, e_iA, e_iAb, e_gAq1, e_gAq2, e_gAq3, e_gAqb1, e_gAqb2, e_gAqb3, e_gAqb4, e_no, e_cCh, e_cChI, e_aug, e_decT, e_decF, e_cDispS, e_cDT, e_cDK, e_cDisp1, e_storeA, e_stR1, e_stR2, e_stR3, e_sd1, e_keyD1, e_keyD2, e_keyTD, e_intsD, e_intsD0, e_borT, e_borT2, e_borK, e_borK2, e_argT, e_argT2, e_argK, e_argK2, e_nbT, e_nbK, e_putT, e_putK, e_gAt1, e_gAt2, e_gAt3, e_gAt4, e_gGetDK, e_gGetDT, e_gIxD, e_gInD, e_gNotInD, e_cGet1, e_cGet2, e_dk1, e_dk2, e_dk3, e_dk4, e_dt1, e_dt2, e_del, atI_zero, e_at1, e_at2, e_at3, e_at4, e_at5, e_at6, e_at7, e_at8, e_at9, e_atm, e_V, e_retV, e_unp, e_app, e_store, e_fzE, oS, rsO_some, Rs.bind_ok, Rs.bind_no, Rs.out_ok, Out.then_nx, Out.then_rt, Out.then_ct, Out.then_bk, fin_rt, fin_nx, List.getElem?_cons_zero, List.getElem?_cons_succ, List.set_cons_succ, List.set_cons_zero, List.length_cons, List.length_nil, Nat.reduceAdd, Nat.reduceLT, Nat.reduceLeDiff, Nat.reduceEqDiff, if_true, if_false, Bool.false_eq_true, Bool.not_true, Bool.not_false, and_self, true_and, and_true, List.map_cons, List.map_nil, Option.map_some, sh_int, sh_bool, sh_none, sh_tup, sh_lst, eqv_int, reduceIte, Option.bind_some, Option.bind_none, kitB_ll, kitB_lt, kitB_tt, kitB_tl, kitB_ii, tyD_list, tyD_int, Bool.true_and, Bool.false_and, Bool.and_true, Bool.and_false, Bool.or_true, Bool.true_or, Bool.false_or, Bool.or_false, Bool.and_self, Bool.or_self, e_cAK, List.append_nil, List.nil_append, List.cons_append, e_andB, e_orB, e_andR, e_orR, tyD_tuple, eqv_bool, eqv_none, tyD_bool, tyD_str, tyD_none, kitB_bb, kitB_nb, kitB_bi, kitB_ib, kitB_nl, kitB_nt, beq_self_eq_true]
def topS (i : Nat) : Stmt := PySem.Challenge.pw_tidyback_k55_cancelled_code.main.body.getD i (.Pass ⟨0, 0, 0, 0⟩)
structure Txt (K : PySem.W.Frag) (mg : Str → Option Value) (a__law_cell a__law_draw a__law_operand a__law_program a__law_random a_opposite a_cancelled a__law_inputs a_result_of a_source_value a_performed a_run a__law_result a__law_value a__law_after a__law_other a__law_due a_law : Addr) : Prop where
  g__law_cell : mg "_law_cell" = some (.ref a__law_cell)
  k__law_cell : PySem.W.keepIn K (.ref a__law_cell) = true
  g__law_draw : mg "_law_draw" = some (.ref a__law_draw)
  k__law_draw : PySem.W.keepIn K (.ref a__law_draw) = true
  g__law_operand : mg "_law_operand" = some (.ref a__law_operand)
  k__law_operand : PySem.W.keepIn K (.ref a__law_operand) = true
  g__law_program : mg "_law_program" = some (.ref a__law_program)
  k__law_program : PySem.W.keepIn K (.ref a__law_program) = true
  g__law_random : mg "_law_random" = some (.ref a__law_random)
  k__law_random : PySem.W.keepIn K (.ref a__law_random) = true
  g_opposite : mg "opposite" = some (.ref a_opposite)
  k_opposite : PySem.W.keepIn K (.ref a_opposite) = true
  g_cancelled : mg "cancelled" = some (.ref a_cancelled)
  k_cancelled : PySem.W.keepIn K (.ref a_cancelled) = true
  g__law_inputs : mg "_law_inputs" = some (.ref a__law_inputs)
  k__law_inputs : PySem.W.keepIn K (.ref a__law_inputs) = true
  g_result_of : mg "result_of" = some (.ref a_result_of)
  k_result_of : PySem.W.keepIn K (.ref a_result_of) = true
  g_source_value : mg "source_value" = some (.ref a_source_value)
  k_source_value : PySem.W.keepIn K (.ref a_source_value) = true
  g_performed : mg "performed" = some (.ref a_performed)
  k_performed : PySem.W.keepIn K (.ref a_performed) = true
  g_run : mg "run" = some (.ref a_run)
  k_run : PySem.W.keepIn K (.ref a_run) = true
  g__law_result : mg "_law_result" = some (.ref a__law_result)
  k__law_result : PySem.W.keepIn K (.ref a__law_result) = true
  g__law_value : mg "_law_value" = some (.ref a__law_value)
  k__law_value : PySem.W.keepIn K (.ref a__law_value) = true
  g__law_after : mg "_law_after" = some (.ref a__law_after)
  k__law_after : PySem.W.keepIn K (.ref a__law_after) = true
  g__law_other : mg "_law_other" = some (.ref a__law_other)
  k__law_other : PySem.W.keepIn K (.ref a__law_other) = true
  g__law_due : mg "_law_due" = some (.ref a__law_due)
  k__law_due : PySem.W.keepIn K (.ref a__law_due) = true
  g_law : mg "law" = some (.ref a_law)
  k_law : PySem.W.keepIn K (.ref a_law) = true
  z_int : mg "int" = none
  z_len : mg "len" = none
  z_list : mg "list" = none
  z_max : mg "max" = none
  z_min : mg "min" = none
  z_range : mg "range" = none
  z_str : mg "str" = none
  z_tuple : mg "tuple" = none
section
variable {P : Program} {w : World} {K : PySem.W.Frag} {mg : Str → Option Value} {base : Heap} {ca : Nat → Addr} {a__law_cell a__law_draw a__law_operand a__law_program a__law_random a_opposite a_cancelled a__law_inputs a_result_of a_source_value a_performed a_run a__law_result a__law_value a__law_after a__law_other a__law_due a_law : Addr}
abbrev s__law_cell : Stmt := topS 8
abbrev n__law_cell : List Str := ["_law_script", "_law_k"]
theorem sc__law_cell : FnScope n__law_cell ["_law_script", "_law_k"] (defScope s__law_cell) := ⟨rfl, rfl, rfl, by decide +kernel, rfl, by decide +kernel, by decide +kernel⟩
theorem ok__law_cell (T : Txt K mg a__law_cell a__law_draw a__law_operand a__law_program a__law_random a_opposite a_cancelled a__law_inputs a_result_of a_source_value a_performed a_run a__law_result a__law_value a__law_after a__law_other a__law_due a_law) {fd : FuncData} (F : Fun K "_law_cell" "_law_cell" s__law_cell a__law_cell fd) : FnOk P w K mg base (L2.CX P w) 1 a__law_cell fd ["_law_script", "_law_k"] (spV K ca 2 F__law_cell) :=
  fn_ok (k := 0) (N := n__law_cell) (body := B__law_cell) F sc__law_cell (fun cdv A outer s H E hr tk hp =>
    (vss_cons (vs_if (vt_cmp op_lt s_lt (vv 1) (ve_callB call_lenA c_len (by rfl) T.z_len (by decide +kernel) (va_cons (vv 0) va_nil)) (nomark _)) (vss_one (vs_ret (ve_ix ix_seq s_ix (vv 0) (vv 1) (fun _ _ => rfl)))) vss_nil)
    (vss_one (vs_ret ve_int))))
abbrev s__law_draw : Stmt := topS 9
abbrev n__law_draw : List Str := ["_law_script", "_law_k", "_law_sizes", "_law_cell_here", "_law_drawn", "_law_size", "_law_mixed", "_law_j"]
theorem sc__law_draw : FnScope n__law_draw ["_law_script", "_law_k", "_law_sizes"] (defScope s__law_draw) := ⟨rfl, rfl, rfl, by decide +kernel, rfl, by decide +kernel, by decide +kernel⟩
theorem ok__law_draw (T : Txt K mg a__law_cell a__law_draw a__law_operand a__law_program a__law_random a_opposite a_cancelled a__law_inputs a_result_of a_source_value a_performed a_run a__law_result a__law_value a__law_after a__law_other a__law_due a_law) {fd__law_cell : FuncData} (G__law_cell : FnOk P w K mg base (L2.CX P w) 1 a__law_cell fd__law_cell ["_law_script", "_law_k"] (spV K ca 2 F__law_cell)) (b__law_cell : Binds K fd__law_cell ["_law_script", "_law_k"] []) {fd : FuncData} (F : Fun K "_law_draw" "_law_draw" s__law_draw a__law_draw fd) : FnOk P w K mg base (L2.CX P w) 2 a__law_draw fd ["_law_script", "_law_k", "_law_sizes"] (spV K ca 3 F__law_draw) :=
  fn_ok (k := 1) (N := n__law_draw) (body := B__law_draw) F sc__law_draw (fun cdv A outer s H E hr tk hp =>
    (vss_cons (vs_set (i := 3) sc__law_draw.nd rfl (Or.inl rfl) (ve_call G__law_cell (hr.mono (by decide)) (by rfl) T.g__law_cell T.k__law_cell b__law_cell tk (va_cons (vv 0) (va_cons (vv 1) va_nil))))
    (vss_cons (vs_if (vt_cmp op_lt s_lt (vv 3) ve_int (nomark _)) (vss_one (vs_set (i := 3) sc__law_draw.nd rfl (Or.inl rfl) (ve_un un_neg s_neg (vv 3)))) vss_nil)
    (vss_cons (vs_set (i := 4) sc__law_draw.nd rfl (Or.inl rfl) (ve_lst va_nil))
    (vss_cons (vs_if (vt_cmp op_ge s_ge (vv 3) (ve_op op_pow s_pow ve_int ve_int) (nomark _)) (vss_cons (vs_set (i := 3) sc__law_draw.nd rfl (Or.inl rfl) (ve_op op_sub s_sub (vv 3) (ve_op op_pow s_pow ve_int ve_int)))
    (vss_cons (vs_for hp rfl (vi_list (vv 2)) (vg_name sc__law_draw.nd rfl (Or.inl rfl)) (vss_cons (vs_app 4 (ve_op op_mod s_mod (vv 3) (vv 5)))
    (vss_one (vs_set (i := 3) sc__law_draw.nd rfl (Or.inl rfl) (ve_op op_fdiv s_div (vv 3) (vv 5))))))
    (vss_one (vs_retv 4)))) vss_nil)
    (vss_cons (vs_set (i := 6) sc__law_draw.nd rfl (Or.inl rfl) (ve_op op_mod s_mod (ve_op op_addA s_add (ve_op op_addA s_add (vv 3) ve_int) (ve_op op_mul s_mul ve_int (vv 1))) ve_int))
    (vss_cons (vs_for hp rfl (vi_range1 (by rfl) T.z_range (va_cons (ve_callB call_lenA c_len (by rfl) T.z_len (by decide +kernel) (va_cons (vv 2) va_nil)) va_nil)) (vg_name sc__law_draw.nd rfl (Or.inl rfl)) (vss_cons (vs_set (i := 6) sc__law_draw.nd rfl (Or.inl rfl) (ve_op op_mod s_mod (ve_op op_addA s_add (ve_op op_addA s_add (ve_op op_mul s_mul (vv 6) ve_int) ve_int) (vv 7)) ve_int))
    (vss_cons (vs_set (i := 6) sc__law_draw.nd rfl (Or.inl rfl) (ve_op op_mod s_mod (ve_op op_addA s_add (ve_op op_mul s_mul (vv 6) ve_int) ve_int) ve_int))
    (vss_one (vs_app 4 (ve_op op_mod s_mod (ve_op op_fdiv s_div (vv 6) ve_int) (ve_ix ix_seq s_ix (vv 2) (vv 7) (fun _ _ => rfl))))))))
    (vss_one (vs_retv 4)))))))))
abbrev s__law_operand : Stmt := topS 10
abbrev n__law_operand : List Str := ["_law_kind", "_law_number", "_law_modulus", "_law_inputs_here", "_law_many"]
theorem sc__law_operand : FnScope n__law_operand ["_law_kind", "_law_number", "_law_modulus", "_law_inputs_here", "_law_many"] (defScope s__law_operand) := ⟨rfl, rfl, rfl, by decide +kernel, rfl, by decide +kernel, by decide +kernel⟩
theorem ok__law_operand (T : Txt K mg a__law_cell a__law_draw a__law_operand a__law_program a__law_random a_opposite a_cancelled a__law_inputs a_result_of a_source_value a_performed a_run a__law_result a__law_value a__law_after a__law_other a__law_due a_law) {fd : FuncData} (F : Fun K "_law_operand" "_law_operand" s__law_operand a__law_operand fd) : FnOk P w K mg base (L2.CX P w) 1 a__law_operand fd ["_law_kind", "_law_number", "_law_modulus", "_law_inputs_here", "_law_many"] (spV K ca 5 F__law_operand) :=
  fn_ok (k := 0) (N := n__law_operand) (body := B__law_operand) F sc__law_operand (fun cdv A outer s H E hr tk hp =>
    (vss_cons (vs_if (vt_cmp (op_eqD hr.units) s_eq (vv 0) ve_int (nomark _)) (vss_one (vs_ret (ve_op op_addA s_add ve_str (ve_callTy call_str_int c_str (by rfl) T.z_str (by decide +kernel) (va_cons (ve_op op_mod s_mod (vv 1) (vv 3)) va_nil))))) vss_nil)
    (vss_cons (vs_if (vw (vw_or (vt_cmp (op_eqD hr.units) s_eq (vv 0) ve_int (nomark _)) (vw_or1 (vt_cmp (op_eqD hr.units) s_eq (vv 4) ve_int (nomark _))))) (vss_one (vs_ret (ve_callTy call_str_int c_str (by rfl) T.z_str (by decide +kernel) (va_cons (ve_op op_mod s_mod (vv 1) (vv 2)) va_nil)))) vss_nil)
    (vss_one (vs_ret (ve_op op_addA s_add ve_str (ve_callTy call_str_int c_str (by rfl) T.z_str (by decide +kernel) (va_cons (ve_op op_sub s_sub (ve_op op_sub s_sub (vv 4) ve_int) (ve_op op_mod s_mod (vv 1) (vv 4))) va_nil))))))))
abbrev s__law_program : Stmt := topS 11
abbrev n__law_program : List Str := ["_law_script", "_law_k", "_law_most", "_law_digits", "_law_modulus", "_law_inputs_here", "_law_steps", "_law_j", "_law_row", "_law_left", "_law_right", "_law_outputs"]
theorem sc__law_program : FnScope n__law_program ["_law_script", "_law_k", "_law_most"] (defScope s__law_program) := ⟨rfl, rfl, rfl, by decide +kernel, rfl, by decide +kernel, by decide +kernel⟩
theorem ok__law_program (T : Txt K mg a__law_cell a__law_draw a__law_operand a__law_program a__law_random a_opposite a_cancelled a__law_inputs a_result_of a_source_value a_performed a_run a__law_result a__law_value a__law_after a__law_other a__law_due a_law) {fd__law_draw : FuncData} (G__law_draw : FnOk P w K mg base (L2.CX P w) 2 a__law_draw fd__law_draw ["_law_script", "_law_k", "_law_sizes"] (spV K ca 3 F__law_draw)) (b__law_draw : Binds K fd__law_draw ["_law_script", "_law_k", "_law_sizes"] []) {fd__law_operand : FuncData} (G__law_operand : FnOk P w K mg base (L2.CX P w) 1 a__law_operand fd__law_operand ["_law_kind", "_law_number", "_law_modulus", "_law_inputs_here", "_law_many"] (spV K ca 5 F__law_operand)) (b__law_operand : Binds K fd__law_operand ["_law_kind", "_law_number", "_law_modulus", "_law_inputs_here", "_law_many"] []) {fd : FuncData} (F : Fun K "_law_program" "_law_program" s__law_program a__law_program fd) : FnOk P w K mg base (L2.CX P w) 3 a__law_program fd ["_law_script", "_law_k", "_law_most"] (spV K ca 3 F__law_program) :=
  fn_ok (k := 2) (N := n__law_program) (body := B__law_program) F sc__law_program (fun cdv A outer s H E hr tk hp =>
    (vss_cons (vs_set (i := 3) sc__law_program.nd rfl (Or.inr rfl) (ve_call G__law_draw (hr.mono (by decide)) (by rfl) T.g__law_draw T.k__law_draw b__law_draw tk (va_cons (vv 0) (va_cons (vv 1) (va_cons (ve_op op_addA s_add (ve_op op_addA s_add (ve_lst (va_cons ve_int (va_cons ve_int (va_cons (vv 2) va_nil)))) (ve_op op_rep s_rep (ve_lst (va_cons ve_int (va_cons ve_int (va_cons ve_int (va_cons ve_int (va_cons ve_int va_nil)))))) ve_int)) (ve_op op_rep s_rep (ve_lst (va_cons ve_int va_nil)) ve_int)) va_nil)))))
    (vss_cons (vs_set (i := 4) sc__law_program.nd rfl (Or.inl rfl) (ve_op op_addA s_add ve_int (ve_ix ix_seq s_ix (vv 3) ve_int (fun _ _ => rfl))))
    (vss_cons (vs_set (i := 5) sc__law_program.nd rfl (Or.inl rfl) (ve_op op_addA s_add ve_int (ve_ix ix_seq s_ix (vv 3) ve_int (fun _ _ => rfl))))
    (vss_cons (vs_set (i := 6) sc__law_program.nd rfl (Or.inl rfl) (ve_lst va_nil))
    (vss_cons (vs_for hp rfl (vi_range1 (by rfl) T.z_range (va_cons (ve_op op_addA s_add ve_int (ve_ix ix_seq s_ix (vv 3) ve_int (fun _ _ => rfl))) va_nil)) (vg_name sc__law_program.nd rfl (Or.inl rfl)) (vss_cons (vs_set (i := 8) sc__law_program.nd rfl (Or.inl rfl) (ve_sl (vv 3) (vo_some (ve_op op_addA s_add ve_int (ve_op op_mul s_mul ve_int (vv 7)))) (vo_some (ve_op op_addA s_add ve_int (ve_op op_mul s_mul ve_int (vv 7))))))
    (vss_cons (vs_fz 5 (vs_fz 4 (vs_set (i := 9) sc__law_program.nd rfl (Or.inl rfl) (ve_call G__law_operand (hr.mono (by decide)) (by rfl) T.g__law_operand T.k__law_operand b__law_operand tk (va_cons (ve_ix ix_seq s_ix (vv 8) ve_int (fun _ _ => rfl)) (va_cons (ve_ix ix_seq s_ix (vv 8) ve_int (fun _ _ => rfl)) (va_cons (vv 4) (va_cons (vv 5) (va_cons (ve_callB call_lenA c_len (by rfl) T.z_len (by decide +kernel) (va_cons (vv 6) va_nil)) va_nil)))))))))
    (vss_cons (vs_fz 5 (vs_fz 4 (vs_set (i := 10) sc__law_program.nd rfl (Or.inl rfl) (ve_call G__law_operand (hr.mono (by decide)) (by rfl) T.g__law_operand T.k__law_operand b__law_operand tk (va_cons (ve_ix ix_seq s_ix (vv 8) ve_int (fun _ _ => rfl)) (va_cons (ve_ix ix_seq s_ix (vv 8) ve_int (fun _ _ => rfl)) (va_cons (vv 4) (va_cons (vv 5) (va_cons (ve_callB call_lenA c_len (by rfl) T.z_len (by decide +kernel) (va_cons (vv 6) va_nil)) va_nil)))))))))
    (vss_one (vs_fz 10 (vs_fz 9 (vs_if (vt_cmp (op_notInA (hu65 hr)) s_notIn (ve_tup (va_cons (ve_ix ix_seq s_ix ve_str (ve_ix ix_seq s_ix (vv 8) ve_int (fun _ _ => rfl)) (fun _ _ => rfl)) (va_cons (vv 9) (va_cons (vv 10) va_nil)))) (vv 6) (by rfl)) (vss_one (vs_fz 10 (vs_fz 9 (vs_app 6 (ve_tup (va_cons (ve_ix ix_seq s_ix ve_str (ve_ix ix_seq s_ix (vv 8) ve_int (fun _ _ => rfl)) (fun _ _ => rfl)) (va_cons (vv 9) (va_cons (vv 10) va_nil)))))))) vss_nil))))))))
    (vss_cons (vs_setLc (i := 11) (own := [("_law_j", 7)]) rfl sc__law_program.nd rfl rfl (sw_true rfl rfl rfl (by decide +kernel)) (vi_range1 (by rfl) T.z_range (va_cons (ve_callB call_lenA c_len (by rfl) T.z_len (by decide +kernel) (va_cons (vv 6) va_nil)) va_nil)).vj (blkOk_by (own := [("_law_j", 7)]) (N := n__law_program) (sc := defScope s__law_program) (by decide +kernel)) (by decide) (fun _ _ _ _ _ => (vg_name sc__law_program.nd rfl (Or.inl rfl))) (fun _ _ _ _ _ => (vts_one (vt_cmp (op_eqD hr.units) s_eq (ve_ix ix_seq s_ix (vv 3) (ve_op op_addA s_add ve_int (vv 7)) (fun _ _ => rfl)) ve_int (nomark _)))) (fun _ _ _ _ _ => (vv 7)))
    (vss_cons (vs_if (vt_cmp (op_notInA (hu65 hr)) s_notIn (ve_op op_sub s_sub (ve_callB call_lenA c_len (by rfl) T.z_len (by decide +kernel) (va_cons (vv 6) va_nil)) ve_int) (vv 11) (by rfl)) (vss_one (vs_app 11 (ve_op op_sub s_sub (ve_callB call_lenA c_len (by rfl) T.z_len (by decide +kernel) (va_cons (vv 6) va_nil)) ve_int))) vss_nil)
    (vss_one (vs_fz 5 (vs_fz 4 (vs_ret (ve_tup (va_cons (vv 4) (va_cons (vv 5) (va_cons (ve_callTy call_tuple_of c_tuple (by rfl) T.z_tuple (by decide +kernel) (va_cons (vv 6) va_nil)) (va_cons (ve_callTy call_tuple_of c_tuple (by rfl) T.z_tuple (by decide +kernel) (va_cons (vv 11) va_nil)) va_nil)))))))))))))))))
abbrev s__law_random : Stmt := topS 16
abbrev n__law_random : List Str := ["_law_script", "_law_k", "_law_program_here", "_law_most", "_law_code", "_law_digits", "_law_j", "_law_row", "_law_words", "_law_kind", "_law_number", "_law_word"]
theorem sc__law_random : FnScope n__law_random ["_law_script", "_law_k", "_law_program_here", "_law_most"] (defScope s__law_random) := ⟨rfl, rfl, rfl, by decide +kernel, rfl, by decide +kernel, by decide +kernel⟩
theorem ok__law_random (T : Txt K mg a__law_cell a__law_draw a__law_operand a__law_program a__law_random a_opposite a_cancelled a__law_inputs a_result_of a_source_value a_performed a_run a__law_result a__law_value a__law_after a__law_other a__law_due a_law) {fd__law_draw : FuncData} (G__law_draw : FnOk P w K mg base (L2.CX P w) 2 a__law_draw fd__law_draw ["_law_script", "_law_k", "_law_sizes"] (spV K ca 3 F__law_draw)) (b__law_draw : Binds K fd__law_draw ["_law_script", "_law_k", "_law_sizes"] []) {fd : FuncData} (F : Fun K "_law_random" "_law_random" s__law_random a__law_random fd) : FnOk P w K mg base (L2.CX P w) 3 a__law_random fd ["_law_script", "_law_k", "_law_program_here", "_law_most"] (spV K ca 4 F__law_random) :=
  fn_ok (k := 2) (N := n__law_random) (body := B__law_random) F sc__law_random (fun cdv A outer s H E hr tk hp =>
    (vss_cons (vs_set (i := 4) sc__law_random.nd rfl (Or.inl rfl) (ve_lst va_nil))
    (vss_cons (vs_set (i := 5) sc__law_random.nd rfl (Or.inl rfl) (ve_call G__law_draw (hr.mono (by decide)) (by rfl) T.g__law_draw T.k__law_draw b__law_draw tk (va_cons (vv 0) (va_cons (vv 1) (va_cons (ve_op op_addA s_add (ve_lst (va_cons (vv 3) va_nil)) (ve_op op_rep s_rep (ve_lst (va_cons ve_int (va_cons ve_int (va_cons ve_int (va_cons ve_int (va_cons ve_int (va_cons ve_int (va_cons ve_int va_nil)))))))) (vv 3))) va_nil)))))
    (vss_cons (vs_for hp rfl (vi_range1 (by rfl) T.z_range (va_cons (ve_ix ix_seq s_ix (vv 5) ve_int (fun _ _ => rfl)) va_nil)) (vg_name sc__law_random.nd rfl (Or.inl rfl)) (vss_cons (vs_set (i := 7) sc__law_random.nd rfl (Or.inl rfl) (ve_sl (vv 5) (vo_some (ve_op op_addA s_add ve_int (ve_op op_mul s_mul ve_int (vv 6)))) (vo_some (ve_op op_addA s_add ve_int (ve_op op_mul s_mul ve_int (vv 6))))))
    (vss_cons (vs_set (i := 8) sc__law_random.nd rfl (Or.inl rfl) (ve_lst va_nil))
    (vss_cons (vs_for hp rfl (vi_list (ve_lst (va_cons (ve_tup (va_cons (ve_ix ix_seq s_ix (vv 7) ve_int (fun _ _ => rfl)) (va_cons (ve_ix ix_seq s_ix (vv 7) ve_int (fun _ _ => rfl)) va_nil))) (va_cons (ve_tup (va_cons (ve_ix ix_seq s_ix (vv 7) ve_int (fun _ _ => rfl)) (va_cons (ve_ix ix_seq s_ix (vv 7) ve_int (fun _ _ => rfl)) va_nil))) va_nil)))) (vg_tup rfl (vgs_cons sc__law_random.nd rfl (Or.inl rfl) (vgs_cons sc__law_random.nd rfl (Or.inl rfl) vgs_nil))) (vss_cons (vs_set (i := 11) sc__law_random.nd rfl (Or.inl rfl) (ve_op op_addA s_add ve_str (ve_callTy call_str_int c_str (by rfl) T.z_str (by decide +kernel) (va_cons (ve_op op_mod s_mod (ve_op op_addA s_add (ve_op op_addA s_add (ve_ix ix_seq s_ix (vv 7) ve_int (fun _ _ => rfl)) ve_int) (ve_op op_mod s_mod (vv 10) ve_int)) ve_int) va_nil))))
    (vss_cons (vs_if (vt_cmp (op_eqD hr.units) s_eq (vv 9) ve_int (nomark _)) (vss_one (vs_set (i := 11) sc__law_random.nd rfl (Or.inl rfl) (ve_op op_addA s_add ve_str (ve_callTy call_str_int c_str (by rfl) T.z_str (by decide +kernel) (va_cons (ve_op op_mod s_mod (vv 10) (ve_ix ix_seq s_ix (vv 2) ve_int (fun _ _ => rfl))) va_nil))))) vss_nil)
    (vss_cons (vs_if (vt_cmp (op_eqD hr.units) s_eq (vv 9) ve_int (nomark _)) (vss_one (vs_set (i := 11) sc__law_random.nd rfl (Or.inl rfl) (ve_callTy call_str_int c_str (by rfl) T.z_str (by decide +kernel) (va_cons (ve_op op_mod s_mod (vv 10) (ve_ix ix_seq s_ix (vv 2) ve_int (fun _ _ => rfl))) va_nil)))) vss_nil)
    (vss_one (vs_fz 11 (vs_app 8 (vv 11))))))))
    (vss_one (vs_app 4 (ve_tup (va_cons (ve_ix ix_seq s_ix (vv 7) ve_int (fun _ _ => rfl)) (va_cons (ve_ix ix_seq s_ix ve_str (ve_ix ix_seq s_ix (vv 7) ve_int (fun _ _ => rfl)) (fun _ _ => rfl)) (va_cons (ve_ix ix_seq s_ix ve_str (ve_ix ix_seq s_ix (vv 7) ve_int (fun _ _ => rfl)) (fun _ _ => rfl)) (va_cons (ve_ix ix_seq s_ix (vv 8) ve_int (fun _ _ => rfl)) (va_cons (ve_ix ix_seq s_ix (vv 8) ve_int (fun _ _ => rfl)) va_nil))))))))))))
    (vss_one (vs_retv 4))))))
abbrev s_opposite : Stmt := topS 5
abbrev n_opposite : List Str := ["instruction", "cell", "sign", "operation", "left", "right"]
theorem sc_opposite : FnScope n_opposite ["instruction"] (defScope s_opposite) := ⟨rfl, rfl, rfl, by decide +kernel, rfl, by decide +kernel, by decide +kernel⟩
theorem ok_opposite (T : Txt K mg a__law_cell a__law_draw a__law_operand a__law_program a__law_random a_opposite a_cancelled a__law_inputs a_result_of a_source_value a_performed a_run a__law_result a__law_value a__law_after a__law_other a__law_due a_law) {fd : FuncData} (F : Fun K "opposite" "opposite" s_opposite a_opposite fd) : FnOk P w K mg base (L2.CX P w) 1 a_opposite fd ["instruction"] (spV K ca 1 F_opposite) :=
  fn_ok (k := 0) (N := n_opposite) (body := B_opposite) F sc_opposite (fun cdv A outer s H E hr tk hp =>
    (vss_cons (vs_unp (vv 0) (vg_tup rfl (vgs_cons sc_opposite.nd rfl (Or.inl rfl) (vgs_cons sc_opposite.nd rfl (Or.inl rfl) (vgs_cons sc_opposite.nd rfl (Or.inl rfl) (vgs_cons sc_opposite.nd rfl (Or.inl rfl) (vgs_cons sc_opposite.nd rfl (Or.inl rfl) vgs_nil)))))))
    (vss_one (vs_ret (ve_tup (va_cons (vv 1) (va_cons (ve_ifExp (vt_cmp (op_eqD hr.units) s_eq (vv 2) ve_str (nomark _)) ve_str ve_str) (va_cons (vv 3) (va_cons (vv 4) (va_cons (vv 5) va_nil))))))))))
abbrev s_cancelled : Stmt := topS 6
abbrev n_cancelled : List Str := ["code", "kept", "instruction"]
theorem sc_cancelled : FnScope n_cancelled ["code"] (defScope s_cancelled) := ⟨rfl, rfl, rfl, by decide +kernel, rfl, by decide +kernel, by decide +kernel⟩
theorem ok_cancelled (T : Txt K mg a__law_cell a__law_draw a__law_operand a__law_program a__law_random a_opposite a_cancelled a__law_inputs a_result_of a_source_value a_performed a_run a__law_result a__law_value a__law_after a__law_other a__law_due a_law) {fd_opposite : FuncData} (G_opposite : FnOk P w K mg base (L2.CX P w) 1 a_opposite fd_opposite ["instruction"] (spV K ca 1 F_opposite)) (b_opposite : Binds K fd_opposite ["instruction"] []) {fd : FuncData} (F : Fun K "cancelled" "cancelled" s_cancelled a_cancelled fd) : FnOk P w K mg base (L2.CX P w) 2 a_cancelled fd ["code"] (spV K ca 1 F_cancelled) :=
  fn_ok (k := 1) (N := n_cancelled) (body := B_cancelled) F sc_cancelled (fun cdv A outer s H E hr tk hp =>
    (vss_cons (vs_set (i := 1) sc_cancelled.nd rfl (Or.inl rfl) (ve_lst va_nil))
    (vss_cons (vs_for hp rfl (vi_any (vv 0)) (vg_name sc_cancelled.nd rfl (Or.inl rfl)) (vss_one (vs_if (vw (vw_and (vt_cmp op_gt s_gt (ve_callB call_lenA c_len (by rfl) T.z_len (by decide +kernel) (va_cons (vv 1) va_nil)) ve_int (nomark _)) (vw_and1 (vt_cmp (op_eqD hr.units) s_eq (ve_ix ix_seq s_ix (vv 1) (ve_un un_neg s_neg ve_int) (fun _ _ => rfl)) (ve_call G_opposite (hr.mono (by decide)) (by rfl) T.g_opposite T.k_opposite b_opposite tk (va_cons (vv 2) va_nil)) (nomark _))))) (vss_one (vs_pop 1)) (vss_one (vs_app 1 (vv 2))))))
    (vss_one (vs_retv 1)))))
abbrev s__law_inputs : Stmt := topS 14
abbrev n__law_inputs : List Str := ["_law_script", "_law_k", "_law_program_here", "_law_digits"]
theorem sc__law_inputs : FnScope n__law_inputs ["_law_script", "_law_k", "_law_program_here"] (defScope s__law_inputs) := ⟨rfl, rfl, rfl, by decide +kernel, rfl, by decide +kernel, by decide +kernel⟩
theorem ok__law_inputs (T : Txt K mg a__law_cell a__law_draw a__law_operand a__law_program a__law_random a_opposite a_cancelled a__law_inputs a_result_of a_source_value a_performed a_run a__law_result a__law_value a__law_after a__law_other a__law_due a_law) {fd__law_draw : FuncData} (G__law_draw : FnOk P w K mg base (L2.CX P w) 2 a__law_draw fd__law_draw ["_law_script", "_law_k", "_law_sizes"] (spV K ca 3 F__law_draw)) (b__law_draw : Binds K fd__law_draw ["_law_script", "_law_k", "_law_sizes"] []) {fd : FuncData} (F : Fun K "_law_inputs" "_law_inputs" s__law_inputs a__law_inputs fd) : FnOk P w K mg base (L2.CX P w) 3 a__law_inputs fd ["_law_script", "_law_k", "_law_program_here"] (spV K ca 3 F__law_inputs) :=
  fn_ok (k := 2) (N := n__law_inputs) (body := B__law_inputs) F sc__law_inputs (fun cdv A outer s H E hr tk hp =>
    (vss_cons (vs_set (i := 3) sc__law_inputs.nd rfl (Or.inl rfl) (ve_call G__law_draw (hr.mono (by decide)) (by rfl) T.g__law_draw T.k__law_draw b__law_draw tk (va_cons (vv 0) (va_cons (vv 1) (va_cons (ve_op op_rep s_rep (ve_lst (va_cons (ve_ix ix_seq s_ix (vv 2) ve_int (fun _ _ => rfl)) va_nil)) (ve_ix ix_seq s_ix (vv 2) ve_int (fun _ _ => rfl))) va_nil)))))
    (vss_one (vs_ret (ve_callTy call_list_of c_list (by rfl) T.z_list (by decide +kernel) (va_cons (vv 3) va_nil))))))
abbrev s_result_of : Stmt := topS 2
abbrev n_result_of : List Str := ["operation", "left", "right"]
theorem sc_result_of : FnScope n_result_of ["operation", "left", "right"] (defScope s_result_of) := ⟨rfl, rfl, rfl, by decide +kernel, rfl, by decide +kernel, by decide +kernel⟩
theorem ok_result_of (T : Txt K mg a__law_cell a__law_draw a__law_operand a__law_program a__law_random a_opposite a_cancelled a__law_inputs a_result_of a_source_value a_performed a_run a__law_result a__law_value a__law_after a__law_other a__law_due a_law) {fd : FuncData} (F : Fun K "result_of" "result_of" s_result_of a_result_of fd) : FnOk P w K mg base (L2.CX P w) 1 a_result_of fd ["operation", "left", "right"] (spV K ca 3 F_result_of) :=
  fn_ok (k := 0) (N := n_result_of) (body := B_result_of) F sc_result_of (fun cdv A outer s H E hr tk hp =>
    (vss_cons (vs_if (vt_cmp (op_eqD hr.units) s_eq (vv 0) ve_str (nomark _)) (vss_one (vs_ret (ve_op op_addA s_add (vv 1) (vv 2)))) vss_nil)
    (vss_cons (vs_if (vt_cmp (op_eqD hr.units) s_eq (vv 0) ve_str (nomark _)) (vss_one (vs_ret (ve_op op_sub s_sub (vv 1) (vv 2)))) vss_nil)
    (vss_one (vs_ret (ve_op op_mul s_mul (vv 1) (vv 2)))))))
abbrev s_source_value : Stmt := topS 1
abbrev n_source_value : List Str := ["source", "inputs", "registers"]
theorem sc_source_value : FnScope n_source_value ["source", "inputs", "registers"] (defScope s_source_value) := ⟨rfl, rfl, rfl, by decide +kernel, rfl, by decide +kernel, by decide +kernel⟩
theorem ok_source_value (T : Txt K mg a__law_cell a__law_draw a__law_operand a__law_program a__law_random a_opposite a_cancelled a__law_inputs a_result_of a_source_value a_performed a_run a__law_result a__law_value a__law_after a__law_other a__law_due a_law) {fd : FuncData} (F : Fun K "source_value" "source_value" s_source_value a_source_value fd) : FnOk P w K mg base (L2.CX P w) 1 a_source_value fd ["source", "inputs", "registers"] (spV K ca 3 F_source_value) :=
  fn_ok (k := 0) (N := n_source_value) (body := B_source_value) F sc_source_value (fun cdv A outer s H E hr tk hp =>
    (vss_cons (vs_if (vt_cmp (op_eqD hr.units) s_eq (ve_ix ix_seq s_ix (vv 0) ve_int (fun _ _ => rfl)) ve_str (nomark _)) (vss_one (vs_ret (ve_ix ix_seq s_ix (vv 1) (ve_callTy call_int_str c_int (by rfl) T.z_int (by decide +kernel) (va_cons (ve_sl (vv 0) (vo_some ve_int) vo_none) va_nil)) (fun _ _ => rfl)))) vss_nil)
    (vss_cons (vs_if (vt_cmp (op_eqD hr.units) s_eq (ve_ix ix_seq s_ix (vv 0) ve_int (fun _ _ => rfl)) ve_str (nomark _)) (vss_one (vs_ret (ve_ix ix_seq s_ix (vv 2) (ve_callTy call_int_str c_int (by rfl) T.z_int (by decide +kernel) (va_cons (ve_sl (vv 0) (vo_some ve_int) vo_none) va_nil)) (fun _ _ => rfl)))) vss_nil)
    (vss_one (vs_ret (ve_callTy call_int_str c_int (by rfl) T.z_int (by decide +kernel) (va_cons (vv 0) va_nil)))))))
abbrev s_performed : Stmt := topS 3
abbrev n_performed : List Str := ["program", "instruction", "inputs", "registers", "cell", "sign", "operation", "left", "right", "result", "contents"]
theorem sc_performed : FnScope n_performed ["program", "instruction", "inputs", "registers"] (defScope s_performed) := ⟨rfl, rfl, rfl, by decide +kernel, rfl, by decide +kernel, by decide +kernel⟩
theorem ok_performed (T : Txt K mg a__law_cell a__law_draw a__law_operand a__law_program a__law_random a_opposite a_cancelled a__law_inputs a_result_of a_source_value a_performed a_run a__law_result a__law_value a__law_after a__law_other a__law_due a_law) {fd_result_of : FuncData} (G_result_of : FnOk P w K mg base (L2.CX P w) 1 a_result_of fd_result_of ["operation", "left", "right"] (spV K ca 3 F_result_of)) (b_result_of : Binds K fd_result_of ["operation", "left", "right"] []) {fd_source_value : FuncData} (G_source_value : FnOk P w K mg base (L2.CX P w) 1 a_source_value fd_source_value ["source", "inputs", "registers"] (spV K ca 3 F_source_value)) (b_source_value : Binds K fd_source_value ["source", "inputs", "registers"] []) {fd : FuncData} (F : Fun K "performed" "performed" s_performed a_performed fd) : FnOk P w K mg base (L2.CX P w) 2 a_performed fd ["program", "instruction", "inputs", "registers"] (spV K ca 4 F_performed) :=
  fn_ok (k := 1) (N := n_performed) (body := B_performed) F sc_performed (fun cdv A outer s H E hr tk hp =>
    (vss_cons (vs_unp (vv 1) (vg_tup rfl (vgs_cons sc_performed.nd rfl (Or.inl rfl) (vgs_cons sc_performed.nd rfl (Or.inl rfl) (vgs_cons sc_performed.nd rfl (Or.inl rfl) (vgs_cons sc_performed.nd rfl (Or.inl rfl) (vgs_cons sc_performed.nd rfl (Or.inl rfl) vgs_nil)))))))
    (vss_cons (vs_set (i := 9) sc_performed.nd rfl (Or.inl rfl) (ve_call G_result_of (hr.mono (by decide)) (by rfl) T.g_result_of T.k_result_of b_result_of tk (va_cons (vv 6) (va_cons (ve_call G_source_value (hr.mono (by decide)) (by rfl) T.g_source_value T.k_source_value b_source_value tk (va_cons (vv 7) (va_cons (vv 2) (va_cons (vv 3) va_nil)))) (va_cons (ve_call G_source_value (hr.mono (by decide)) (by rfl) T.g_source_value T.k_source_value b_source_value tk (va_cons (vv 8) (va_cons (vv 2) (va_cons (vv 3) va_nil)))) va_nil)))))
    (vss_cons (vs_set (i := 10) sc_performed.nd rfl (Or.inl rfl) (ve_callTy call_list_of c_list (by rfl) T.z_list (by decide +kernel) (va_cons (vv 3) va_nil)))
    (vss_cons (vs_if (vt_cmp (op_eqD hr.units) s_eq (vv 5) ve_str (nomark _)) (vss_one (vs_store 10 (ve_op op_mod s_mod (ve_op op_addA s_add (ve_ix ix_seq s_ix (vv 10) (vv 4) (fun _ _ => rfl)) (vv 9)) (ve_ix ix_seq s_ix (vv 0) ve_int (fun _ _ => rfl))) (vv 4))) (vss_one (vs_store 10 (ve_op op_mod s_mod (ve_op op_sub s_sub (ve_ix ix_seq s_ix (vv 10) (vv 4) (fun _ _ => rfl)) (vv 9)) (ve_ix ix_seq s_ix (vv 0) ve_int (fun _ _ => rfl))) (vv 4))))
    (vss_one (vs_retv 10)))))))
abbrev s_run : Stmt := topS 4
abbrev n_run : List Str := ["program", "code", "inputs", "registers", "contents", "instruction"]
theorem sc_run : FnScope n_run ["program", "code", "inputs", "registers"] (defScope s_run) := ⟨rfl, rfl, rfl, by decide +kernel, rfl, by decide +kernel, by decide +kernel⟩
theorem ok_run (T : Txt K mg a__law_cell a__law_draw a__law_operand a__law_program a__law_random a_opposite a_cancelled a__law_inputs a_result_of a_source_value a_performed a_run a__law_result a__law_value a__law_after a__law_other a__law_due a_law) {fd_performed : FuncData} (G_performed : FnOk P w K mg base (L2.CX P w) 2 a_performed fd_performed ["program", "instruction", "inputs", "registers"] (spV K ca 4 F_performed)) (b_performed : Binds K fd_performed ["program", "instruction", "inputs", "registers"] []) {fd : FuncData} (F : Fun K "run" "run" s_run a_run fd) : FnOk P w K mg base (L2.CX P w) 3 a_run fd ["program", "code", "inputs", "registers"] (spV K ca 4 F_run) :=
  fn_ok (k := 2) (N := n_run) (body := B_run) F sc_run (fun cdv A outer s H E hr tk hp =>
    (vss_cons (vs_set (i := 4) sc_run.nd rfl (Or.inl rfl) (ve_callTy call_list_of c_list (by rfl) T.z_list (by decide +kernel) (va_cons (vv 3) va_nil)))
    (vss_cons (vs_for hp rfl (vi_any (vv 1)) (vg_name sc_run.nd rfl (Or.inl rfl)) (vss_one (vs_fz 4 (vs_set (i := 4) sc_run.nd rfl (Or.inl rfl) (ve_call G_performed (hr.mono (by decide)) (by rfl) T.g_performed T.k_performed b_performed tk (va_cons (vv 0) (va_cons (vv 5) (va_cons (vv 2) (va_cons (vv 4) va_nil)))))))))
    (vss_one (vs_retv 4)))))
abbrev s__law_result : Stmt := topS 12
abbrev n__law_result : List Str := ["_law_operation", "_law_left", "_law_right", "_law_modulus"]
theorem sc__law_result : FnScope n__law_result ["_law_operation", "_law_left", "_law_right", "_law_modulus"] (defScope s__law_result) := ⟨rfl, rfl, rfl, by decide +kernel, rfl, by decide +kernel, by decide +kernel⟩
theorem ok__law_result (T : Txt K mg a__law_cell a__law_draw a__law_operand a__law_program a__law_random a_opposite a_cancelled a__law_inputs a_result_of a_source_value a_performed a_run a__law_result a__law_value a__law_after a__law_other a__law_due a_law) {fd : FuncData} (F : Fun K "_law_result" "_law_result" s__law_result a__law_result fd) : FnOk P w K mg base (L2.CX P w) 1 a__law_result fd ["_law_operation", "_law_left", "_law_right", "_law_modulus"] (spV K ca 4 F__law_result) :=
  fn_ok (k := 0) (N := n__law_result) (body := B__law_result) F sc__law_result (fun cdv A outer s H E hr tk hp =>
    (vss_cons (vs_if (vt_cmp (op_eqD hr.units) s_eq (vv 0) ve_str (nomark _)) (vss_one (vs_ret (ve_op op_mod s_mod (ve_op op_addA s_add (vv 1) (vv 2)) (vv 3)))) vss_nil)
    (vss_cons (vs_if (vt_cmp (op_eqD hr.units) s_eq (vv 0) ve_str (nomark _)) (vss_one (vs_ret (ve_op op_mod s_mod (ve_op op_sub s_sub (vv 1) (vv 2)) (vv 3)))) vss_nil)
    (vss_one (vs_ret (ve_op op_mod s_mod (ve_op op_mul s_mul (vv 1) (vv 2)) (vv 3)))))))
abbrev s__law_value : Stmt := topS 13
abbrev n__law_value : List Str := ["_law_word", "_law_inputs_here", "_law_others"]
theorem sc__law_value : FnScope n__law_value ["_law_word", "_law_inputs_here", "_law_others"] (defScope s__law_value) := ⟨rfl, rfl, rfl, by decide +kernel, rfl, by decide +kernel, by decide +kernel⟩
theorem ok__law_value (T : Txt K mg a__law_cell a__law_draw a__law_operand a__law_program a__law_random a_opposite a_cancelled a__law_inputs a_result_of a_source_value a_performed a_run a__law_result a__law_value a__law_after a__law_other a__law_due a_law) {fd : FuncData} (F : Fun K "_law_value" "_law_value" s__law_value a__law_value fd) : FnOk P w K mg base (L2.CX P w) 1 a__law_value fd ["_law_word", "_law_inputs_here", "_law_others"] (spV K ca 3 F__law_value) :=
  fn_ok (k := 0) (N := n__law_value) (body := B__law_value) F sc__law_value (fun cdv A outer s H E hr tk hp =>
    (vss_cons (vs_if (vt_cmp (op_eqD hr.units) s_eq (ve_ix ix_seq s_ix (vv 0) ve_int (fun _ _ => rfl)) ve_str (nomark _)) (vss_one (vs_ret (ve_ix ix_seq s_ix (vv 1) (ve_callTy call_int_str c_int (by rfl) T.z_int (by decide +kernel) (va_cons (ve_sl (vv 0) (vo_some ve_int) vo_none) va_nil)) (fun _ _ => rfl)))) vss_nil)
    (vss_cons (vs_if (vw (vw_or (vt_cmp (op_eqD hr.units) s_eq (ve_ix ix_seq s_ix (vv 0) ve_int (fun _ _ => rfl)) ve_str (nomark _)) (vw_or1 (vt_cmp (op_eqD hr.units) s_eq (ve_ix ix_seq s_ix (vv 0) ve_int (fun _ _ => rfl)) ve_str (nomark _))))) (vss_one (vs_ret (ve_ix ix_seq s_ix (vv 2) (ve_callTy call_int_str c_int (by rfl) T.z_int (by decide +kernel) (va_cons (ve_sl (vv 0) (vo_some ve_int) vo_none) va_nil)) (fun _ _ => rfl)))) vss_nil)
    (vss_one (vs_ret (ve_callTy call_int_str c_int (by rfl) T.z_int (by decide +kernel) (va_cons (vv 0) va_nil)))))))
abbrev s__law_after : Stmt := topS 15
abbrev n__law_after : List Str := ["_law_program_here", "_law_code", "_law_inputs_here", "_law_registers", "_law_contents", "_law_reg", "_law_sign", "_law_operation", "_law_left", "_law_right", "_law_value_here"]
theorem sc__law_after : FnScope n__law_after ["_law_program_here", "_law_code", "_law_inputs_here", "_law_registers"] (defScope s__law_after) := ⟨rfl, rfl, rfl, by decide +kernel, rfl, by decide +kernel, by decide +kernel⟩
theorem ok__law_after (T : Txt K mg a__law_cell a__law_draw a__law_operand a__law_program a__law_random a_opposite a_cancelled a__law_inputs a_result_of a_source_value a_performed a_run a__law_result a__law_value a__law_after a__law_other a__law_due a_law) {fd__law_result : FuncData} (G__law_result : FnOk P w K mg base (L2.CX P w) 1 a__law_result fd__law_result ["_law_operation", "_law_left", "_law_right", "_law_modulus"] (spV K ca 4 F__law_result)) (b__law_result : Binds K fd__law_result ["_law_operation", "_law_left", "_law_right", "_law_modulus"] []) {fd__law_value : FuncData} (G__law_value : FnOk P w K mg base (L2.CX P w) 1 a__law_value fd__law_value ["_law_word", "_law_inputs_here", "_law_others"] (spV K ca 3 F__law_value)) (b__law_value : Binds K fd__law_value ["_law_word", "_law_inputs_here", "_law_others"] []) {fd : FuncData} (F : Fun K "_law_after" "_law_after" s__law_after a__law_after fd) : FnOk P w K mg base (L2.CX P w) 2 a__law_after fd ["_law_program_here", "_law_code", "_law_inputs_here", "_law_registers"] (spV K ca 4 F__law_after) :=
  fn_ok (k := 1) (N := n__law_after) (body := B__law_after) F sc__law_after (fun cdv A outer s H E hr tk hp =>
    (vss_cons (vs_set (i := 4) sc__law_after.nd rfl (Or.inl rfl) (ve_callTy call_list_of c_list (by rfl) T.z_list (by decide +kernel) (va_cons (vv 3) va_nil)))
    (vss_cons (vs_for hp rfl (vi_any (vv 1)) (vg_tup rfl (vgs_cons sc__law_after.nd rfl (Or.inl rfl) (vgs_cons sc__law_after.nd rfl (Or.inl rfl) (vgs_cons sc__law_after.nd rfl (Or.inl rfl) (vgs_cons sc__law_after.nd rfl (Or.inl rfl) (vgs_cons sc__law_after.nd rfl (Or.inl rfl) vgs_nil)))))) (vss_cons (vs_set (i := 10) sc__law_after.nd rfl (Or.inl rfl) (ve_call G__law_result (hr.mono (by decide)) (by rfl) T.g__law_result T.k__law_result b__law_result tk (va_cons (vv 7) (va_cons (ve_call G__law_value (hr.mono (by decide)) (by rfl) T.g__law_value T.k__law_value b__law_value tk (va_cons (vv 8) (va_cons (vv 2) (va_cons (vv 4) va_nil)))) (va_cons (ve_call G__law_value (hr.mono (by decide)) (by rfl) T.g__law_value T.k__law_value b__law_value tk (va_cons (vv 9) (va_cons (vv 2) (va_cons (vv 4) va_nil)))) (va_cons (ve_ix ix_seq s_ix (vv 0) ve_int (fun _ _ => rfl)) va_nil))))))
    (vss_cons (vs_if (vt_cmp (op_eqD hr.units) s_eq (vv 6) ve_str (nomark _)) (vss_one (vs_set (i := 10) sc__law_after.nd rfl (Or.inl rfl) (ve_un un_neg s_neg (vv 10)))) vss_nil)
    (vss_one (vs_store 4 (ve_op op_mod s_mod (ve_op op_addA s_add (ve_ix ix_seq s_ix (vv 4) (vv 5) (fun _ _ => rfl)) (vv 10)) (ve_ix ix_seq s_ix (vv 0) ve_int (fun _ _ => rfl))) (vv 5))))))
    (vss_one (vs_retv 4)))))
abbrev s__law_other : Stmt := topS 17
abbrev n__law_other : List Str := ["_law_row"]
theorem sc__law_other : FnScope n__law_other ["_law_row"] (defScope s__law_other) := ⟨rfl, rfl, rfl, by decide +kernel, rfl, by decide +kernel, by decide +kernel⟩
theorem ok__law_other (T : Txt K mg a__law_cell a__law_draw a__law_operand a__law_program a__law_random a_opposite a_cancelled a__law_inputs a_result_of a_source_value a_performed a_run a__law_result a__law_value a__law_after a__law_other a__law_due a_law) {fd : FuncData} (F : Fun K "_law_other" "_law_other" s__law_other a__law_other fd) : FnOk P w K mg base (L2.CX P w) 1 a__law_other fd ["_law_row"] (spV K ca 1 F__law_other) :=
  fn_ok (k := 0) (N := n__law_other) (body := B__law_other) F sc__law_other (fun cdv A outer s H E hr tk hp =>
    (vss_one (vs_ret (ve_tup (va_cons (ve_ix ix_seq s_ix (vv 0) ve_int (fun _ _ => rfl)) (va_cons (ve_ix (ix_d (hu1 hr)) s_ixD (ve_dispS (by decide +kernel)) (ve_ix ix_seq s_ix (vv 0) ve_int (fun _ _ => rfl)) (fun _ _ => rfl)) (va_cons (ve_ix ix_seq s_ix (vv 0) ve_int (fun _ _ => rfl)) (va_cons (ve_ix ix_seq s_ix (vv 0) ve_int (fun _ _ => rfl)) (va_cons (ve_ix ix_seq s_ix (vv 0) ve_int (fun _ _ => rfl)) va_nil)))))))))
abbrev s__law_due : Stmt := topS 18
abbrev n__law_due : List Str := ["_law_code", "_law_place"]
theorem sc__law_due : FnScope n__law_due ["_law_code"] (defScope s__law_due) := ⟨rfl, rfl, rfl, by decide +kernel, rfl, by decide +kernel, by decide +kernel⟩
theorem ok__law_due (T : Txt K mg a__law_cell a__law_draw a__law_operand a__law_program a__law_random a_opposite a_cancelled a__law_inputs a_result_of a_source_value a_performed a_run a__law_result a__law_value a__law_after a__law_other a__law_due a_law) {fd__law_other : FuncData} (G__law_other : FnOk P w K mg base (L2.CX P w) 1 a__law_other fd__law_other ["_law_row"] (spV K ca 1 F__law_other)) (b__law_other : Binds K fd__law_other ["_law_row"] []) {fd : FuncData} (F : Fun K "_law_due" "_law_due" s__law_due a__law_due fd) (b__law_due : Binds K fd ["_law_code"] []) : ∀ n, FnOk P w K mg base (L2.CX P w) (2 + n) a__law_due fd ["_law_code"] (spV K ca 1 (FN__law_due n)) := by
  intro n
  induction n with
  | zero => exact fn_no rfl
  | succ n ih => exact fn_ok (k := 2 + n) (N := n__law_due) (body := B__law_due (FN__law_due n)) F sc__law_due (fun cdv A outer s H E hr tk hp =>
    (vss_cons (vs_for hp rfl (vi_range2 (by rfl) T.z_range (va_cons ve_int (va_cons (ve_callB call_lenA c_len (by rfl) T.z_len (by decide +kernel) (va_cons (vv 0) va_nil)) va_nil))) (vg_name sc__law_due.nd rfl (Or.inl rfl)) (vss_one (vs_if (vt_cmp (op_eqD hr.units) s_eq (ve_ix ix_seq s_ix (vv 0) (vv 1) (fun _ _ => rfl)) (ve_call G__law_other (hr.mono (by omega)) (by rfl) T.g__law_other T.k__law_other b__law_other tk (va_cons (ve_ix ix_seq s_ix (vv 0) (ve_op op_sub s_sub (vv 1) ve_int) (fun _ _ => rfl)) va_nil)) (nomark _)) (vss_one (vs_ret (ve_call ih (hr.mono (by omega)) (by rfl) T.g__law_due T.k__law_due b__law_due tk (va_cons (ve_op op_addA s_add (ve_sl (vv 0) vo_none (vo_some (ve_op op_sub s_sub (vv 1) ve_int))) (ve_sl (vv 0) (vo_some (ve_op op_addA s_add (vv 1) ve_int)) vo_none)) va_nil)))) vss_nil)))
    (vss_one (vs_retv 0))))
abbrev s_law : Stmt := topS 19
abbrev n_law : List Str := ["_law_script", "_law_k", "_law_program_here", "_law_code", "_law_more", "_law_digits", "_law_rows", "_law_j", "_law_place", "_law_told", "_law_registers", "_law_inputs_here"]
theorem sc_law : FnScope n_law ["_law_script"] (defScope s_law) := ⟨rfl, rfl, rfl, by decide +kernel, rfl, by decide +kernel, by decide +kernel⟩
theorem ok_law (T : Txt K mg a__law_cell a__law_draw a__law_operand a__law_program a__law_random a_opposite a_cancelled a__law_inputs a_result_of a_source_value a_performed a_run a__law_result a__law_value a__law_after a__law_other a__law_due a_law) {fd__law_program : FuncData} (G__law_program : FnOk P w K mg base (L2.CX P w) 3 a__law_program fd__law_program ["_law_script", "_law_k", "_law_most"] (spV K ca 3 F__law_program)) (b__law_program : Binds K fd__law_program ["_law_script", "_law_k", "_law_most"] []) {fd__law_random : FuncData} (G__law_random : FnOk P w K mg base (L2.CX P w) 3 a__law_random fd__law_random ["_law_script", "_law_k", "_law_program_here", "_law_most"] (spV K ca 4 F__law_random)) (b__law_random : Binds K fd__law_random ["_law_script", "_law_k", "_law_program_here", "_law_most"] []) {fd__law_draw : FuncData} (G__law_draw : FnOk P w K mg base (L2.CX P w) 2 a__law_draw fd__law_draw ["_law_script", "_law_k", "_law_sizes"] (spV K ca 3 F__law_draw)) (b__law_draw : Binds K fd__law_draw ["_law_script", "_law_k", "_law_sizes"] []) {fd__law_other : FuncData} (G__law_other : FnOk P w K mg base (L2.CX P w) 1 a__law_other fd__law_other ["_law_row"] (spV K ca 1 F__law_other)) (b__law_other : Binds K fd__law_other ["_law_row"] []) {fd_cancelled : FuncData} (G_cancelled : FnOk P w K mg base (L2.CX P w) 2 a_cancelled fd_cancelled ["code"] (spV K ca 1 F_cancelled)) (b_cancelled : Binds K fd_cancelled ["code"] []) {fd__law_due : FuncData} (G__law_due : FnOk P w K mg base (L2.CX P w) 11 a__law_due fd__law_due ["_law_code"] (spV K ca 1 F__law_due)) (b__law_due : Binds K fd__law_due ["_law_code"] []) {fd__law_inputs : FuncData} (G__law_inputs : FnOk P w K mg base (L2.CX P w) 3 a__law_inputs fd__law_inputs ["_law_script", "_law_k", "_law_program_here"] (spV K ca 3 F__law_inputs)) (b__law_inputs : Binds K fd__law_inputs ["_law_script", "_law_k", "_law_program_here"] []) {fd_run : FuncData} (G_run : FnOk P w K mg base (L2.CX P w) 3 a_run fd_run ["program", "code", "inputs", "registers"] (spV K ca 4 F_run)) (b_run : Binds K fd_run ["program", "code", "inputs", "registers"] []) {fd__law_after : FuncData} (G__law_after : FnOk P w K mg base (L2.CX P w) 2 a__law_after fd__law_after ["_law_program_here", "_law_code", "_law_inputs_here", "_law_registers"] (spV K ca 4 F__law_after)) (b__law_after : Binds K fd__law_after ["_law_program_here", "_law_code", "_law_inputs_here", "_law_registers"] []) {fd : FuncData} (F : Fun K "law" "law" s_law a_law fd) : FnOk P w K mg base (L2.CX P w) 12 a_law fd ["_law_script"] (spV K ca 1 F_law) :=
  fn_ok (k := 11) (N := n_law) (body := B_law) F sc_law (fun cdv A outer s H E hr tk hp =>
    (vss_cons (vs_for hp rfl (vi_range1 (by rfl) T.z_range (va_cons (ve_callB (call_min2 rfl) c_min2 (by rfl) T.z_min (by decide +kernel) (va_cons ve_int (va_cons (ve_callB (call_max2 rfl) c_max2 (by rfl) T.z_max (by decide +kernel) (va_cons ve_int (va_cons (ve_op op_fdiv s_div (ve_callB call_lenA c_len (by rfl) T.z_len (by decide +kernel) (va_cons (vv 0) va_nil)) ve_int) va_nil))) va_nil))) va_nil)) (vg_name sc_law.nd rfl (Or.inl rfl)) (vss_cons (vs_set (i := 2) sc_law.nd rfl (Or.inl rfl) (ve_call G__law_program (hr.mono (by decide)) (by rfl) T.g__law_program T.k__law_program b__law_program tk (va_cons (vv 0) (va_cons (ve_op op_mul s_mul ve_int (vv 1)) (va_cons ve_int va_nil)))))
    (vss_cons (vs_fz 2 (vs_set (i := 3) sc_law.nd rfl (Or.inl rfl) (ve_call G__law_random (hr.mono (by decide)) (by rfl) T.g__law_random T.k__law_random b__law_random tk (va_cons (vv 0) (va_cons (ve_op op_addA s_add (ve_op op_mul s_mul ve_int (vv 1)) ve_int) (va_cons (vv 2) (va_cons ve_int va_nil)))))))
    (vss_cons (vs_set (i := 4) sc_law.nd rfl (Or.inl rfl) (ve_callTy call_list_of c_list (by rfl) T.z_list (by decide +kernel) (va_cons (vv 3) va_nil)))
    (vss_cons (vs_set (i := 5) sc_law.nd rfl (Or.inl rfl) (ve_call G__law_draw (hr.mono (by decide)) (by rfl) T.g__law_draw T.k__law_draw b__law_draw tk (va_cons (vv 0) (va_cons (ve_op op_addA s_add (ve_op op_mul s_mul ve_int (vv 1)) ve_int) (va_cons (ve_op op_rep s_rep (ve_lst (va_cons ve_int va_nil)) ve_int) va_nil)))))
    (vss_cons (vs_fz 2 (vs_set (i := 6) sc_law.nd rfl (Or.inl rfl) (ve_call G__law_random (hr.mono (by decide)) (by rfl) T.g__law_random T.k__law_random b__law_random tk (va_cons (vv 0) (va_cons (ve_op op_addA s_add (ve_op op_mul s_mul ve_int (vv 1)) ve_int) (va_cons (vv 2) (va_cons ve_int va_nil)))))))
    (vss_cons (vs_for hp rfl (vi_range1 (by rfl) T.z_range (va_cons (ve_callB call_lenA c_len (by rfl) T.z_len (by decide +kernel) (va_cons (vv 6) va_nil)) va_nil)) (vg_name sc_law.nd rfl (Or.inl rfl)) (vss_cons (vs_set (i := 8) sc_law.nd rfl (Or.inl rfl) (ve_op op_mod s_mod (ve_ix ix_seq s_ix (vv 5) (vv 7) (fun _ _ => rfl)) (ve_op op_addA s_add (ve_callB call_lenA c_len (by rfl) T.z_len (by decide +kernel) (va_cons (vv 4) va_nil)) ve_int)))
    (vss_one (vs_set (i := 4) sc_law.nd rfl (Or.inl rfl) (ve_op op_addA s_add (ve_op op_addA s_add (ve_sl (vv 4) vo_none (vo_some (vv 8))) (ve_lst (va_cons (ve_ix ix_seq s_ix (vv 6) (vv 7) (fun _ _ => rfl)) (va_cons (ve_call G__law_other (hr.mono (by decide)) (by rfl) T.g__law_other T.k__law_other b__law_other tk (va_cons (ve_ix ix_seq s_ix (vv 6) (vv 7) (fun _ _ => rfl)) va_nil)) va_nil)))) (ve_sl (vv 4) (vo_some (vv 8)) vo_none))))))
    (vss_cons (vs_fz 4 (vs_set (i := 9) sc_law.nd rfl (Or.inl rfl) (ve_call G_cancelled (hr.mono (by decide)) (by rfl) T.g_cancelled T.k_cancelled b_cancelled tk (va_cons (vv 4) va_nil))))
    (vss_cons (vs_fz 9 (vs_fz 3 (vs_fz 4 (vs_if (vw (vw_or (vt_cmp (op_neD hr.units) s_ne (vv 9) (ve_call G__law_due (hr.mono (by decide)) (by rfl) T.g__law_due T.k__law_due b__law_due tk (va_cons (vv 4) va_nil)) (nomark _)) (vw_or (vt_cmp (op_neD hr.units) s_ne (vv 9) (ve_call G_cancelled (hr.mono (by decide)) (by rfl) T.g_cancelled T.k_cancelled b_cancelled tk (va_cons (vv 3) va_nil)) (nomark _)) (vw_or1 (vt_cmp (op_neD hr.units) s_ne (ve_call G_cancelled (hr.mono (by decide)) (by rfl) T.g_cancelled T.k_cancelled b_cancelled tk (va_cons (vv 9) va_nil)) (vv 9) (nomark _)))))) (vss_one (vs_ret ve_bl)) vss_nil))))
    (vss_cons (vs_set (i := 10) sc_law.nd rfl (Or.inl rfl) (ve_call G__law_draw (hr.mono (by decide)) (by rfl) T.g__law_draw T.k__law_draw b__law_draw tk (va_cons (vv 0) (va_cons (ve_op op_addA s_add (ve_op op_mul s_mul ve_int (vv 1)) ve_int) (va_cons (ve_op op_rep s_rep (ve_lst (va_cons (ve_ix ix_seq s_ix (vv 2) ve_int (fun _ _ => rfl)) va_nil)) ve_int) va_nil)))))
    (vss_cons (vs_fz 2 (vs_set (i := 11) sc_law.nd rfl (Or.inl rfl) (ve_call G__law_inputs (hr.mono (by decide)) (by rfl) T.g__law_inputs T.k__law_inputs b__law_inputs tk (va_cons (vv 0) (va_cons (ve_op op_addA s_add (ve_op op_mul s_mul ve_int (vv 1)) ve_int) (va_cons (vv 2) va_nil))))))
    (vss_one (vs_fz 3 (vs_fz 10 (vs_fz 11 (vs_fz 9 (vs_fz 2 (vs_if (vt_cmp (op_neD hr.units) s_ne (ve_call G_run (hr.mono (by decide)) (by rfl) T.g_run T.k_run b_run tk (va_cons (vv 2) (va_cons (vv 9) (va_cons (vv 11) (va_cons (vv 10) va_nil))))) (ve_call G__law_after (hr.mono (by decide)) (by rfl) T.g__law_after T.k__law_after b__law_after tk (va_cons (vv 2) (va_cons (vv 3) (va_cons (vv 11) (va_cons (vv 10) va_nil))))) (nomark _)) (vss_one (vs_ret ve_bl)) vss_nil))))))))))))))))))
    (vss_one (vs_ret ve_bl))))
end
theorem all_mk {l : PySem.W.OpenLaw} {w : World} {K : PySem.W.Frag} {h : Heap} {mg : Str → Option Value} {fa a__law_cell a__law_draw a__law_operand a__law_program a__law_random a_opposite a_cancelled a__law_inputs a_result_of a_source_value a_performed a_run a__law_result a__law_value a__law_after a__law_other a__law_due a_law : Addr} (X : K.In h) (G : h.Ns mainGlobals mg) (hfa : mg "law" = some (.ref fa))
    {od__law_cell an__law_cell od__law_draw an__law_draw od__law_operand an__law_operand od__law_program an__law_program od__law_random an__law_random od_opposite an_opposite od_cancelled an_cancelled od__law_inputs an__law_inputs od_result_of an_result_of od_source_value an_source_value od_performed an_performed od_run an_run od__law_result an__law_result od__law_value an__law_value od__law_after an__law_after od__law_other an__law_other od__law_due an__law_due od_law an_law : Option Addr} {sl__law_cell sl__law_draw sl__law_operand sl__law_program sl__law_random sl_opposite sl_cancelled sl__law_inputs sl_result_of sl_source_value sl_performed sl_run sl__law_result sl__law_value sl__law_after sl__law_other sl__law_due sl_law : Array (Option Value)} {oc__law_cell kV__law_cell dc__law_cell pm__law_cell cd__law_cell ct__law_cell oc__law_draw kV__law_draw dc__law_draw pm__law_draw cd__law_draw ct__law_draw oc__law_operand kV__law_operand dc__law_operand pm__law_operand cd__law_operand ct__law_operand oc__law_program kV__law_program dc__law_program pm__law_program cd__law_program ct__law_program oc__law_random kV__law_random dc__law_random pm__law_random cd__law_random ct__law_random oc_opposite kV_opposite dc_opposite pm_opposite cd_opposite ct_opposite oc_cancelled kV_cancelled dc_cancelled pm_cancelled cd_cancelled ct_cancelled oc__law_inputs kV__law_inputs dc__law_inputs pm__law_inputs cd__law_inputs ct__law_inputs oc_result_of kV_result_of dc_result_of pm_result_of cd_result_of ct_result_of oc_source_value kV_source_value dc_source_value pm_source_value cd_source_value ct_source_value oc_performed kV_performed dc_performed pm_performed cd_performed ct_performed oc_run kV_run dc_run pm_run cd_run ct_run oc__law_result kV__law_result dc__law_result pm__law_result cd__law_result ct__law_result oc__law_value kV__law_value dc__law_value pm__law_value cd__law_value ct__law_value oc__law_after kV__law_after dc__law_after pm__law_after cd__law_after ct__law_after oc__law_other kV__law_other dc__law_other pm__law_other cd__law_other ct__law_other oc__law_due kV__law_due dc__law_due pm__law_due cd__law_due ct__law_due oc_law kV_law dc_law pm_law cd_law ct_law : Value}
    (p__law_cell : PySem.W.nsIn K mainGlobals "_law_cell" = some (some (.ref a__law_cell))) (l__law_cell : K.lookup a__law_cell = some ⟨oc__law_cell, od__law_cell, .func (PySem.W.fnOf "_law_cell" "_law_cell" (defArgs s__law_cell) (defBody s__law_cell) (defScope s__law_cell) .none kV__law_cell dc__law_cell pm__law_cell an__law_cell cd__law_cell ct__law_cell), sl__law_cell⟩) (c__law_cell : PySem.W.codeIn K cd__law_cell "_law_cell" = true) (k__law_cell : PySem.W.keepIn K (.ref a__law_cell) = true)
    (p__law_draw : PySem.W.nsIn K mainGlobals "_law_draw" = some (some (.ref a__law_draw))) (l__law_draw : K.lookup a__law_draw = some ⟨oc__law_draw, od__law_draw, .func (PySem.W.fnOf "_law_draw" "_law_draw" (defArgs s__law_draw) (defBody s__law_draw) (defScope s__law_draw) .none kV__law_draw dc__law_draw pm__law_draw an__law_draw cd__law_draw ct__law_draw), sl__law_draw⟩) (c__law_draw : PySem.W.codeIn K cd__law_draw "_law_draw" = true) (k__law_draw : PySem.W.keepIn K (.ref a__law_draw) = true)
    (p__law_operand : PySem.W.nsIn K mainGlobals "_law_operand" = some (some (.ref a__law_operand))) (l__law_operand : K.lookup a__law_operand = some ⟨oc__law_operand, od__law_operand, .func (PySem.W.fnOf "_law_operand" "_law_operand" (defArgs s__law_operand) (defBody s__law_operand) (defScope s__law_operand) .none kV__law_operand dc__law_operand pm__law_operand an__law_operand cd__law_operand ct__law_operand), sl__law_operand⟩) (c__law_operand : PySem.W.codeIn K cd__law_operand "_law_operand" = true) (k__law_operand : PySem.W.keepIn K (.ref a__law_operand) = true)
    (p__law_program : PySem.W.nsIn K mainGlobals "_law_program" = some (some (.ref a__law_program))) (l__law_program : K.lookup a__law_program = some ⟨oc__law_program, od__law_program, .func (PySem.W.fnOf "_law_program" "_law_program" (defArgs s__law_program) (defBody s__law_program) (defScope s__law_program) .none kV__law_program dc__law_program pm__law_program an__law_program cd__law_program ct__law_program), sl__law_program⟩) (c__law_program : PySem.W.codeIn K cd__law_program "_law_program" = true) (k__law_program : PySem.W.keepIn K (.ref a__law_program) = true)
    (p__law_random : PySem.W.nsIn K mainGlobals "_law_random" = some (some (.ref a__law_random))) (l__law_random : K.lookup a__law_random = some ⟨oc__law_random, od__law_random, .func (PySem.W.fnOf "_law_random" "_law_random" (defArgs s__law_random) (defBody s__law_random) (defScope s__law_random) .none kV__law_random dc__law_random pm__law_random an__law_random cd__law_random ct__law_random), sl__law_random⟩) (c__law_random : PySem.W.codeIn K cd__law_random "_law_random" = true) (k__law_random : PySem.W.keepIn K (.ref a__law_random) = true)
    (p_opposite : PySem.W.nsIn K mainGlobals "opposite" = some (some (.ref a_opposite))) (l_opposite : K.lookup a_opposite = some ⟨oc_opposite, od_opposite, .func (PySem.W.fnOf "opposite" "opposite" (defArgs s_opposite) (defBody s_opposite) (defScope s_opposite) .none kV_opposite dc_opposite pm_opposite an_opposite cd_opposite ct_opposite), sl_opposite⟩) (c_opposite : PySem.W.codeIn K cd_opposite "opposite" = true) (k_opposite : PySem.W.keepIn K (.ref a_opposite) = true)
    (p_cancelled : PySem.W.nsIn K mainGlobals "cancelled" = some (some (.ref a_cancelled))) (l_cancelled : K.lookup a_cancelled = some ⟨oc_cancelled, od_cancelled, .func (PySem.W.fnOf "cancelled" "cancelled" (defArgs s_cancelled) (defBody s_cancelled) (defScope s_cancelled) .none kV_cancelled dc_cancelled pm_cancelled an_cancelled cd_cancelled ct_cancelled), sl_cancelled⟩) (c_cancelled : PySem.W.codeIn K cd_cancelled "cancelled" = true) (k_cancelled : PySem.W.keepIn K (.ref a_cancelled) = true)
    (p__law_inputs : PySem.W.nsIn K mainGlobals "_law_inputs" = some (some (.ref a__law_inputs))) (l__law_inputs : K.lookup a__law_inputs = some ⟨oc__law_inputs, od__law_inputs, .func (PySem.W.fnOf "_law_inputs" "_law_inputs" (defArgs s__law_inputs) (defBody s__law_inputs) (defScope s__law_inputs) .none kV__law_inputs dc__law_inputs pm__law_inputs an__law_inputs cd__law_inputs ct__law_inputs), sl__law_inputs⟩) (c__law_inputs : PySem.W.codeIn K cd__law_inputs "_law_inputs" = true) (k__law_inputs : PySem.W.keepIn K (.ref a__law_inputs) = true)
    (p_result_of : PySem.W.nsIn K mainGlobals "result_of" = some (some (.ref a_result_of))) (l_result_of : K.lookup a_result_of = some ⟨oc_result_of, od_result_of, .func (PySem.W.fnOf "result_of" "result_of" (defArgs s_result_of) (defBody s_result_of) (defScope s_result_of) .none kV_result_of dc_result_of pm_result_of an_result_of cd_result_of ct_result_of), sl_result_of⟩) (c_result_of : PySem.W.codeIn K cd_result_of "result_of" = true) (k_result_of : PySem.W.keepIn K (.ref a_result_of) = true)
    (p_source_value : PySem.W.nsIn K mainGlobals "source_value" = some (some (.ref a_source_value))) (l_source_value : K.lookup a_source_value = some ⟨oc_source_value, od_source_value, .func (PySem.W.fnOf "source_value" "source_value" (defArgs s_source_value) (defBody s_source_value) (defScope s_source_value) .none kV_source_value dc_source_value pm_source_value an_source_value cd_source_value ct_source_value), sl_source_value⟩) (c_source_value : PySem.W.codeIn K cd_source_value "source_value" = true) (k_source_value : PySem.W.keepIn K (.ref a_source_value) = true)
    (p_performed : PySem.W.nsIn K mainGlobals "performed" = some (some (.ref a_performed))) (l_performed : K.lookup a_performed = some ⟨oc_performed, od_performed, .func (PySem.W.fnOf "performed" "performed" (defArgs s_performed) (defBody s_performed) (defScope s_performed) .none kV_performed dc_performed pm_performed an_performed cd_performed ct_performed), sl_performed⟩) (c_performed : PySem.W.codeIn K cd_performed "performed" = true) (k_performed : PySem.W.keepIn K (.ref a_performed) = true)
    (p_run : PySem.W.nsIn K mainGlobals "run" = some (some (.ref a_run))) (l_run : K.lookup a_run = some ⟨oc_run, od_run, .func (PySem.W.fnOf "run" "run" (defArgs s_run) (defBody s_run) (defScope s_run) .none kV_run dc_run pm_run an_run cd_run ct_run), sl_run⟩) (c_run : PySem.W.codeIn K cd_run "run" = true) (k_run : PySem.W.keepIn K (.ref a_run) = true)
    (p__law_result : PySem.W.nsIn K mainGlobals "_law_result" = some (some (.ref a__law_result))) (l__law_result : K.lookup a__law_result = some ⟨oc__law_result, od__law_result, .func (PySem.W.fnOf "_law_result" "_law_result" (defArgs s__law_result) (defBody s__law_result) (defScope s__law_result) .none kV__law_result dc__law_result pm__law_result an__law_result cd__law_result ct__law_result), sl__law_result⟩) (c__law_result : PySem.W.codeIn K cd__law_result "_law_result" = true) (k__law_result : PySem.W.keepIn K (.ref a__law_result) = true)
    (p__law_value : PySem.W.nsIn K mainGlobals "_law_value" = some (some (.ref a__law_value))) (l__law_value : K.lookup a__law_value = some ⟨oc__law_value, od__law_value, .func (PySem.W.fnOf "_law_value" "_law_value" (defArgs s__law_value) (defBody s__law_value) (defScope s__law_value) .none kV__law_value dc__law_value pm__law_value an__law_value cd__law_value ct__law_value), sl__law_value⟩) (c__law_value : PySem.W.codeIn K cd__law_value "_law_value" = true) (k__law_value : PySem.W.keepIn K (.ref a__law_value) = true)
    (p__law_after : PySem.W.nsIn K mainGlobals "_law_after" = some (some (.ref a__law_after))) (l__law_after : K.lookup a__law_after = some ⟨oc__law_after, od__law_after, .func (PySem.W.fnOf "_law_after" "_law_after" (defArgs s__law_after) (defBody s__law_after) (defScope s__law_after) .none kV__law_after dc__law_after pm__law_after an__law_after cd__law_after ct__law_after), sl__law_after⟩) (c__law_after : PySem.W.codeIn K cd__law_after "_law_after" = true) (k__law_after : PySem.W.keepIn K (.ref a__law_after) = true)
    (p__law_other : PySem.W.nsIn K mainGlobals "_law_other" = some (some (.ref a__law_other))) (l__law_other : K.lookup a__law_other = some ⟨oc__law_other, od__law_other, .func (PySem.W.fnOf "_law_other" "_law_other" (defArgs s__law_other) (defBody s__law_other) (defScope s__law_other) .none kV__law_other dc__law_other pm__law_other an__law_other cd__law_other ct__law_other), sl__law_other⟩) (c__law_other : PySem.W.codeIn K cd__law_other "_law_other" = true) (k__law_other : PySem.W.keepIn K (.ref a__law_other) = true)
    (p__law_due : PySem.W.nsIn K mainGlobals "_law_due" = some (some (.ref a__law_due))) (l__law_due : K.lookup a__law_due = some ⟨oc__law_due, od__law_due, .func (PySem.W.fnOf "_law_due" "_law_due" (defArgs s__law_due) (defBody s__law_due) (defScope s__law_due) .none kV__law_due dc__law_due pm__law_due an__law_due cd__law_due ct__law_due), sl__law_due⟩) (c__law_due : PySem.W.codeIn K cd__law_due "_law_due" = true) (k__law_due : PySem.W.keepIn K (.ref a__law_due) = true)
    (p_law : PySem.W.nsIn K mainGlobals "law" = some (some (.ref a_law))) (l_law : K.lookup a_law = some ⟨oc_law, od_law, .func (PySem.W.fnOf "law" "law" (defArgs s_law) (defBody s_law) (defScope s_law) .none kV_law dc_law pm_law an_law cd_law ct_law), sl_law⟩) (c_law : PySem.W.codeIn K cd_law "law" = true) (k_law : PySem.W.keepIn K (.ref a_law) = true)
    (z_int : PySem.W.nsIn K mainGlobals "int" = some none)
    (z_len : PySem.W.nsIn K mainGlobals "len" = some none)
    (z_list : PySem.W.nsIn K mainGlobals "list" = some none)
    (z_max : PySem.W.nsIn K mainGlobals "max" = some none)
    (z_min : PySem.W.nsIn K mainGlobals "min" = some none)
    (z_range : PySem.W.nsIn K mainGlobals "range" = some none)
    (z_str : PySem.W.nsIn K mainGlobals "str" = some none)
    (z_tuple : PySem.W.nsIn K mainGlobals "tuple" = some none) :
    ∃ fd : FuncData, (∀ (s : Shared) (v : Value), BindsTo s fd ⟨[v], []⟩ [("_law_script", v)]) ∧ ∀ base : Heap, K.In base → base.Ns mainGlobals mg → FnOk l.prog w K mg base (L2.CX l.prog w) 12 fa fd ["_law_script"] (spTrue K) := by
  have e := hfa.symm.trans (PySem.W.mg_of X G p_law)
  cases e
  have T : Txt K mg a__law_cell a__law_draw a__law_operand a__law_program a__law_random a_opposite a_cancelled a__law_inputs a_result_of a_source_value a_performed a_run a__law_result a__law_value a__law_after a__law_other a__law_due fa := ⟨PySem.W.mg_of X G p__law_cell, k__law_cell, PySem.W.mg_of X G p__law_draw, k__law_draw, PySem.W.mg_of X G p__law_operand, k__law_operand, PySem.W.mg_of X G p__law_program, k__law_program, PySem.W.mg_of X G p__law_random, k__law_random, PySem.W.mg_of X G p_opposite, k_opposite, PySem.W.mg_of X G p_cancelled, k_cancelled, PySem.W.mg_of X G p__law_inputs, k__law_inputs, PySem.W.mg_of X G p_result_of, k_result_of, PySem.W.mg_of X G p_source_value, k_source_value, PySem.W.mg_of X G p_performed, k_performed, PySem.W.mg_of X G p_run, k_run, PySem.W.mg_of X G p__law_result, k__law_result, PySem.W.mg_of X G p__law_value, k__law_value, PySem.W.mg_of X G p__law_after, k__law_after, PySem.W.mg_of X G p__law_other, k__law_other, PySem.W.mg_of X G p__law_due, k__law_due, PySem.W.mg_of X G p_law, k_law, PySem.W.mg_none_of X G z_int, PySem.W.mg_none_of X G z_len, PySem.W.mg_none_of X G z_list, PySem.W.mg_none_of X G z_max, PySem.W.mg_none_of X G z_min, PySem.W.mg_none_of X G z_range, PySem.W.mg_none_of X G z_str, PySem.W.mg_none_of X G z_tuple⟩
  have f__law_cell := fun_mk (st := s__law_cell) l__law_cell c__law_cell k__law_cell
  have b__law_cell := f__law_cell.binds (ps := ["_law_script", "_law_k"]) fun _ _ _ _ _ _ us hl => match us, hl with | [_, _], _ => rfl
  have f__law_draw := fun_mk (st := s__law_draw) l__law_draw c__law_draw k__law_draw
  have b__law_draw := f__law_draw.binds (ps := ["_law_script", "_law_k", "_law_sizes"]) fun _ _ _ _ _ _ us hl => match us, hl with | [_, _, _], _ => rfl
  have f__law_operand := fun_mk (st := s__law_operand) l__law_operand c__law_operand k__law_operand
  have b__law_operand := f__law_operand.binds (ps := ["_law_kind", "_law_number", "_law_modulus", "_law_inputs_here", "_law_many"]) fun _ _ _ _ _ _ us hl => match us, hl with | [_, _, _, _, _], _ => rfl
  have f__law_program := fun_mk (st := s__law_program) l__law_program c__law_program k__law_program
  have b__law_program := f__law_program.binds (ps := ["_law_script", "_law_k", "_law_most"]) fun _ _ _ _ _ _ us hl => match us, hl with | [_, _, _], _ => rfl
  have f__law_random := fun_mk (st := s__law_random) l__law_random c__law_random k__law_random
  have b__law_random := f__law_random.binds (ps := ["_law_script", "_law_k", "_law_program_here", "_law_most"]) fun _ _ _ _ _ _ us hl => match us, hl with | [_, _, _, _], _ => rfl
  have f_opposite := fun_mk (st := s_opposite) l_opposite c_opposite k_opposite
  have b_opposite := f_opposite.binds (ps := ["instruction"]) fun _ _ _ _ _ _ us hl => match us, hl with | [_], _ => rfl
  have f_cancelled := fun_mk (st := s_cancelled) l_cancelled c_cancelled k_cancelled
  have b_cancelled := f_cancelled.binds (ps := ["code"]) fun _ _ _ _ _ _ us hl => match us, hl with | [_], _ => rfl
  have f__law_inputs := fun_mk (st := s__law_inputs) l__law_inputs c__law_inputs k__law_inputs
  have b__law_inputs := f__law_inputs.binds (ps := ["_law_script", "_law_k", "_law_program_here"]) fun _ _ _ _ _ _ us hl => match us, hl with | [_, _, _], _ => rfl
  have f_result_of := fun_mk (st := s_result_of) l_result_of c_result_of k_result_of
  have b_result_of := f_result_of.binds (ps := ["operation", "left", "right"]) fun _ _ _ _ _ _ us hl => match us, hl with | [_, _, _], _ => rfl
  have f_source_value := fun_mk (st := s_source_value) l_source_value c_source_value k_source_value
  have b_source_value := f_source_value.binds (ps := ["source", "inputs", "registers"]) fun _ _ _ _ _ _ us hl => match us, hl with | [_, _, _], _ => rfl
  have f_performed := fun_mk (st := s_performed) l_performed c_performed k_performed
  have b_performed := f_performed.binds (ps := ["program", "instruction", "inputs", "registers"]) fun _ _ _ _ _ _ us hl => match us, hl with | [_, _, _, _], _ => rfl
  have f_run := fun_mk (st := s_run) l_run c_run k_run
  have b_run := f_run.binds (ps := ["program", "code", "inputs", "registers"]) fun _ _ _ _ _ _ us hl => match us, hl with | [_, _, _, _], _ => rfl
  have f__law_result := fun_mk (st := s__law_result) l__law_result c__law_result k__law_result
  have b__law_result := f__law_result.binds (ps := ["_law_operation", "_law_left", "_law_right", "_law_modulus"]) fun _ _ _ _ _ _ us hl => match us, hl with | [_, _, _, _], _ => rfl
  have f__law_value := fun_mk (st := s__law_value) l__law_value c__law_value k__law_value
  have b__law_value := f__law_value.binds (ps := ["_law_word", "_law_inputs_here", "_law_others"]) fun _ _ _ _ _ _ us hl => match us, hl with | [_, _, _], _ => rfl
  have f__law_after := fun_mk (st := s__law_after) l__law_after c__law_after k__law_after
  have b__law_after := f__law_after.binds (ps := ["_law_program_here", "_law_code", "_law_inputs_here", "_law_registers"]) fun _ _ _ _ _ _ us hl => match us, hl with | [_, _, _, _], _ => rfl
  have f__law_other := fun_mk (st := s__law_other) l__law_other c__law_other k__law_other
  have b__law_other := f__law_other.binds (ps := ["_law_row"]) fun _ _ _ _ _ _ us hl => match us, hl with | [_], _ => rfl
  have f__law_due := fun_mk (st := s__law_due) l__law_due c__law_due k__law_due
  have b__law_due := f__law_due.binds (ps := ["_law_code"]) fun _ _ _ _ _ _ us hl => match us, hl with | [_], _ => rfl
  have f_law := fun_mk (st := s_law) l_law c_law k_law
  refine ⟨PySem.W.fnOf "law" "law" (defArgs s_law) (defBody s_law) (defScope s_law) .none kV_law dc_law pm_law an_law cd_law ct_law, fun s v => .of_eq rfl, fun base _ _ => ?_⟩
  have G__law_cell := ok__law_cell (P := l.prog) (w := w) (base := base) (ca := (fun _ => 0)) T  f__law_cell
  have G__law_draw := ok__law_draw (P := l.prog) (w := w) (base := base) (ca := (fun _ => 0)) T G__law_cell b__law_cell f__law_draw
  have G__law_operand := ok__law_operand (P := l.prog) (w := w) (base := base) (ca := (fun _ => 0)) T  f__law_operand
  have G__law_program := ok__law_program (P := l.prog) (w := w) (base := base) (ca := (fun _ => 0)) T G__law_draw b__law_draw G__law_operand b__law_operand f__law_program
  have G__law_random := ok__law_random (P := l.prog) (w := w) (base := base) (ca := (fun _ => 0)) T G__law_draw b__law_draw f__law_random
  have G_opposite := ok_opposite (P := l.prog) (w := w) (base := base) (ca := (fun _ => 0)) T  f_opposite
  have G_cancelled := ok_cancelled (P := l.prog) (w := w) (base := base) (ca := (fun _ => 0)) T G_opposite b_opposite f_cancelled
  have G__law_inputs := ok__law_inputs (P := l.prog) (w := w) (base := base) (ca := (fun _ => 0)) T G__law_draw b__law_draw f__law_inputs
  have G_result_of := ok_result_of (P := l.prog) (w := w) (base := base) (ca := (fun _ => 0)) T  f_result_of
  have G_source_value := ok_source_value (P := l.prog) (w := w) (base := base) (ca := (fun _ => 0)) T  f_source_value
  have G_performed := ok_performed (P := l.prog) (w := w) (base := base) (ca := (fun _ => 0)) T G_result_of b_result_of G_source_value b_source_value f_performed
  have G_run := ok_run (P := l.prog) (w := w) (base := base) (ca := (fun _ => 0)) T G_performed b_performed f_run
  have G__law_result := ok__law_result (P := l.prog) (w := w) (base := base) (ca := (fun _ => 0)) T  f__law_result
  have G__law_value := ok__law_value (P := l.prog) (w := w) (base := base) (ca := (fun _ => 0)) T  f__law_value
  have G__law_after := ok__law_after (P := l.prog) (w := w) (base := base) (ca := (fun _ => 0)) T G__law_result b__law_result G__law_value b__law_value f__law_after
  have G__law_other := ok__law_other (P := l.prog) (w := w) (base := base) (ca := (fun _ => 0)) T  f__law_other
  have G__law_due := ok__law_due (P := l.prog) (w := w) (base := base) (ca := (fun _ => 0)) T G__law_other b__law_other f__law_due b__law_due 9
  have G_law := ok_law (P := l.prog) (w := w) (base := base) (ca := (fun _ => 0)) T G__law_program b__law_program G__law_random b__law_random G__law_draw b__law_draw G__law_other b__law_other G_cancelled b_cancelled G__law_due b__law_due G__law_inputs b__law_inputs G_run b_run G__law_after b__law_after f_law
  exact G_law.imp fun vs H Q E h => law_true law_holds vs H Q E h
end My
open PySem PySem.W PyProof.Rows
set_option maxHeartbeats 0 in
theorem PySem.Challenge.cw_tidyback_k55_cancelled_code_holds : PySem.Challenge.rw_tidyback_k55_cancelled_code.Holds := by
  w_on; o_law; k_head; (case hw => w_witness2)
  k_fill
  refine L2.walk_of (l := PySem.Challenge.rw_tidyback_k55_cancelled_code) (n := 63) (k := 12) (x := "_law_script") (CX := fun w => L2.CX PySem.Challenge.rw_tidyback_k55_cancelled_code.prog w) (sp := fun w => VL.spTrue _) rfl (by decide) rfl ⟨rfl, by decide, by decide⟩ (fun w h Y => PySem.W.kIn_of Y) ?F (fun _ _ a ns hl _ hS => ⟨a, ns, rfl, hS, hl, fun _ => rfl⟩) (fun _ _ _ _ _ h => by
    obtain ⟨_, _, _, _, _, _, _, _, _, _, _, _, z⟩ := h
    exact z)
  case F =>
    intro w mg fa h KX G hmg
    refine' My.all_mk KX G hmg ?p__law_cell ?l__law_cell ?c__law_cell ?k__law_cell ?p__law_draw ?l__law_draw ?c__law_draw ?k__law_draw ?p__law_operand ?l__law_operand ?c__law_operand ?k__law_operand ?p__law_program ?l__law_program ?c__law_program ?k__law_program ?p__law_random ?l__law_random ?c__law_random ?k__law_random ?p_opposite ?l_opposite ?c_opposite ?k_opposite ?p_cancelled ?l_cancelled ?c_cancelled ?k_cancelled ?p__law_inputs ?l__law_inputs ?c__law_inputs ?k__law_inputs ?p_result_of ?l_result_of ?c_result_of ?k_result_of ?p_source_value ?l_source_value ?c_source_value ?k_source_value ?p_performed ?l_performed ?c_performed ?k_performed ?p_run ?l_run ?c_run ?k_run ?p__law_result ?l__law_result ?c__law_result ?k__law_result ?p__law_value ?l__law_value ?c__law_value ?k__law_value ?p__law_after ?l__law_after ?c__law_after ?k__law_after ?p__law_other ?l__law_other ?c__law_other ?k__law_other ?p__law_due ?l__law_due ?c__law_due ?k__law_due ?p_law ?l_law ?c_law ?k_law ?z_int ?z_len ?z_list ?z_max ?z_min ?z_range ?z_str ?z_tuple
    (case p__law_cell => k_is); (case l__law_cell => k_is); (case c__law_cell => k_is); (case k__law_cell => k_is); (case p__law_draw => k_is); (case l__law_draw => k_is); (case c__law_draw => k_is); (case k__law_draw => k_is); (case p__law_operand => k_is); (case l__law_operand => k_is); (case c__law_operand => k_is); (case k__law_operand => k_is); (case p__law_program => k_is); (case l__law_program => k_is); (case c__law_program => k_is); (case k__law_program => k_is); (case p__law_random => k_is); (case l__law_random => k_is); (case c__law_random => k_is); (case k__law_random => k_is); (case p_opposite => k_is); (case l_opposite => k_is); (case c_opposite => k_is); (case k_opposite => k_is); (case p_cancelled => k_is); (case l_cancelled => k_is); (case c_cancelled => k_is); (case k_cancelled => k_is); (case p__law_inputs => k_is); (case l__law_inputs => k_is); (case c__law_inputs => k_is); (case k__law_inputs => k_is); (case p_result_of => k_is); (case l_result_of => k_is); (case c_result_of => k_is); (case k_result_of => k_is); (case p_source_value => k_is); (case l_source_value => k_is); (case c_source_value => k_is); (case k_source_value => k_is); (case p_performed => k_is); (case l_performed => k_is); (case c_performed => k_is); (case k_performed => k_is); (case p_run => k_is); (case l_run => k_is); (case c_run => k_is); (case k_run => k_is); (case p__law_result => k_is); (case l__law_result => k_is); (case c__law_result => k_is); (case k__law_result => k_is); (case p__law_value => k_is); (case l__law_value => k_is); (case c__law_value => k_is); (case k__law_value => k_is); (case p__law_after => k_is); (case l__law_after => k_is); (case c__law_after => k_is); (case k__law_after => k_is); (case p__law_other => k_is); (case l__law_other => k_is); (case c__law_other => k_is); (case k__law_other => k_is); (case p__law_due => k_is); (case l__law_due => k_is); (case c__law_due => k_is); (case k__law_due => k_is); (case p_law => k_is); (case l_law => k_is); (case c_law => k_is); (case k_law => k_is); (case z_int => k_is); (case z_len => k_is); (case z_list => k_is); (case z_max => k_is); (case z_min => k_is); (case z_range => k_is); (case z_str => k_is); (case z_tuple => k_is)
#print axioms PySem.Challenge.cw_tidyback_k55_cancelled_code_holds
