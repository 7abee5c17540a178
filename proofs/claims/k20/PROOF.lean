import PyProof.Rows.All
import Wide.All
import OpenK.AllK
import Wide.FinOn
import HandS.ForExc
import HandS.Comp
import HandS.Flow
import HandS.Text
import HandS.Wide
import HandS.NoneIn
import HandS.TupAny
import HandS.IsInst
import PyProof.ReprRoads
import PyProof.StrOps2
import PyProof.Rows.StrOr
import HandS.ExcInit
import HandS.ExcOwn
import HandS.TryOnly
import HandS.WordsExc
import HandS.Iter
import HandS.Ends
import PyProof.StrLawsIn
import PyProof.StrLawsRepr
import PyProof.ReprReads
import PyProof.FitsInt
import PyProof.Rows.StrDigitsNeg
import PyProof.Rows.SortStrRead
import PySem.Challenge.RW_runsabreast_k20_texts_of_tuples
set_option Elab.async false
set_option linter.all false
set_option maxRecDepth 100000
set_option maxHeartbeats 4000000
namespace Rn
open PySem L2

/-! ## deep values, boxes, outcomes -/
inductive D where
  | non | bl (b : Bool) | int (i : Int) | str (x : Str) | lst (xs : List D) | con (xs : List D) | tup (xs : List D) | ty (n : String) | fn (n : Nat)
/-- what a name holds: a value that never changes, a box (by its number), or a list of the frame's own -/
inductive U where
  | v (d : D) | b (n : Nat) | o (xs : List D)

inductive Box where
  | dead | lst (xs : List D) | ins (c : Nat) (fs : List (Str × U))
def Box.live : Box → Bool
  | .dead => false
  | _ => true

structure Exn where
  c : Nat
  fs : List (Str × D)

inductive Res (α : Type) where
  | ok (a : α) (S : List Box) | ex (x : Exn) (S : List Box) | no
def Res.bind {α β : Type} (r : Res α) (f : α → List Box → Res β) : Res β := match r with
  | .ok a S => f a S
  | .ex x S => .ex x S
  | .no => .no
abbrev Env := List (Option U)
abbrev CE := Env → List Box → Res U
abbrev CB := Env → List Box → Res Bool
abbrev CA := Env → List Box → Res (List U)
abbrev CF := List U → List Box → Res U
inductive Rs where
  | nx (ρ : Env) (S : List Box) | rt (d : U) (S : List Box) | bk (ρ : Env) (S : List Box) | ct (ρ : Env) (S : List Box) | ex (x : Exn) (ρ : Env) (S : List Box) | no
abbrev CS := Env → List Box → Rs

/-! ## how they stand in the heap -/
structure Pt where
  H : Hp
  S : List Box
  m : Nat → Addr
  /-- addresses that only their owner names -/
  x : Addr → Prop
def Live (p : Pt) (a : Addr) : Prop := p.x a ∨ ∃ n b, p.S[n]? = some b ∧ b.live = true ∧ p.m n = a
def KL (K : PySem.W.Frag) (a : Addr) (xs : List V) : Prop :=
  ∃ (o : Obj) (its : Array Value) (n : Nat), K.lookup a = some o ∧ o.cls = .type "list" ∧ o.dict = none ∧ o.data = .seq its n ∧ its.size ≤ sizeLine ∧ Vals xs its.toList
def KT (K : PySem.W.Frag) (a : Addr) (xs : List V) : Prop :=
  ∃ (o : Obj) (its : Array Value) (n : Nat), K.lookup a = some o ∧ o.cls = .type "tuple" ∧ o.data = .seq its n ∧ its.size ≤ sizeLine ∧ Vals xs its.toList

/-- the written part, and what stands at the known objects (classes) -/
structure Cn where
  K : PySem.W.Frag
  cm : Nat → Addr

mutual
inductive Rp (G : Cn) (p : Pt) : V → D → Prop
  | non : Rp G p .non .non
  | bl (b : Bool) : Rp G p (.bl b) (.bl b)
  | int (i : Int) : Rp G p (.int i) (.int i)
  | str (x : Str) : Rp G p (.str x) (.str x)
  | lst {a : Addr} {vs : List V} {ds : List D} : p.H a = some (.lst vs) → ¬ Live p a → RpL G p vs ds → Rp G p (.ref a) (.lst ds)
  | con {a : Addr} {vs : List V} {ds : List D} : (∃ o, p.H a = some (.frz o (.lst vs))) → ¬ Live p a → RpL G p vs ds → Rp G p (.ref a) (.con ds)
  | conK {a : Addr} {vs : List V} {ds : List D} : KL G.K a vs → RpL G p vs ds → Rp G p (.ref a) (.con ds)
  | tup {a : Addr} {vs : List V} {ds : List D} : Rd p.H a (.tup vs) → ¬ Live p a → RpL G p vs ds → Rp G p (.ref a) (.tup ds)
  | tupK {a : Addr} {vs : List V} {ds : List D} : KT G.K a vs → RpL G p vs ds → Rp G p (.ref a) (.tup ds)
  | ty (n : String) : Rp G p (.ty n) (.ty n)
  | fn {a : Addr} {n : Nat} : G.cm n = a → Rp G p (.ref a) (.fn n)
inductive RpL (G : Cn) (p : Pt) : List V → List D → Prop
  | nil : RpL G p [] []
  | cons {v : V} {d : D} {vs : List V} {ds : List D} : Rp G p v d → RpL G p vs ds → RpL G p (v :: vs) (d :: ds)
end
inductive Ru (G : Cn) (p : Pt) : V → U → Prop
  | v {v : V} {d : D} : Rp G p v d → Ru G p v (.v d)
  | b {a : Addr} {n : Nat} : n < p.S.length → p.m n = a → Ru G p (.ref a) (.b n)
  | o {a : Addr} {vs : List V} {ds : List D} : p.H a = some (.lst vs) → p.x a → RpL G p vs ds → Ru G p (.ref a) (.o ds)
inductive RuL (G : Cn) (p : Pt) : List V → List U → Prop
  | nil : RuL G p [] []
  | cons {v : V} {d : U} {vs : List V} {ds : List U} : Ru G p v d → RuL G p vs ds → RuL G p (v :: vs) (d :: ds)
/-- what any code leaves: x0 is what the callers own -/
structure ExtS (x0 : Addr → Prop) (p q : Pt) : Prop where
  keep : ∀ a o, p.H a = some o → ¬ Live p a → q.H a = some o
  live : ∀ a, Live q a → Live p a ∨ p.H a = none
  map : ∀ n, n < p.S.length → q.m n = p.m n
  len : p.S.length ≤ q.S.length
  res : ∀ a, x0 a → q.H a = p.H a
/-- what an expression leaves -/
structure Ext (p q : Pt) : Prop extends ExtS p.x p q where
  same : q.x = p.x
theorem ExtS.refl (x0 : Addr → Prop) (p : Pt) : ExtS x0 p p := ⟨fun _ _ h _ => h, fun _ h => .inl h, fun _ _ => rfl, Nat.le_refl _, fun _ _ => rfl⟩
theorem ExtS.trans {x0 : Addr → Prop} {p q r : Pt} (a : ExtS x0 p q) (b : ExtS x0 q r) : ExtS x0 p r := by
  refine ⟨fun x o h n => ?_, fun x l => ?_, fun n hn => ?_, Nat.le_trans a.len b.len, fun x h => (b.res x h).trans (a.res x h)⟩
  · have h1 := a.keep x o h n
    refine b.keep x o h1 fun l => ?_
    rcases a.live x l with z | z
    · exact n z
    · rw [h] at z; cases z
  · rcases b.live x l with z | z
    · exact a.live x z
    · by_cases hl : Live p x
      · exact .inl hl
      · refine .inr ?_
        cases e : p.H x with
        | none => rfl
        | some o =>
          rw [a.keep x o e hl] at z; cases z
  · rw [b.map n (Nat.lt_of_lt_of_le hn a.len), a.map n hn]
theorem ExtS.mono {x0 x1 : Addr → Prop} {p q : Pt} (e : ExtS x0 p q) (h : ∀ a, x1 a → x0 a) : ExtS x1 p q := ⟨e.keep, e.live, e.map, e.len, fun a ha => e.res a (h a ha)⟩
theorem Ext.refl (p : Pt) : Ext p p := ⟨ExtS.refl _ p, rfl⟩
theorem Ext.trans {p q r : Pt} (a : Ext p q) (b : Ext q r) : Ext p r := ⟨a.toExtS.trans (b.toExtS.mono fun z h => by rw [a.same]; exact h), b.same.trans a.same⟩
theorem ExtS.rd {x0 : Addr → Prop} {p q : Pt} (e : ExtS x0 p q) {a : Addr} {u : HO} (h : Rd p.H a u) (n : ¬ Live p a) : Rd q.H a u := by
  rcases h with h | ⟨o, h⟩
  · exact .inl (e.keep _ _ h n)
  · exact .inr ⟨o, e.keep _ _ h n⟩
theorem ExtS.nl {x0 : Addr → Prop} {p q : Pt} (e : ExtS x0 p q) {a : Addr} {u : HO} (h : Rd p.H a u) (n : ¬ Live p a) : ¬ Live q a := fun l => by
  rcases e.live a l with z | z
  · exact n z
  · rcases h with h | ⟨o, h⟩ <;> (rw [h] at z; cases z)

section
variable {G : Cn} {p q r : Pt} {x0 : Addr → Prop}
mutual
theorem Rp.ext (e : ExtS x0 p q) : ∀ {v : V} {d : D}, Rp G p v d → Rp G q v d
  | _, _, .non => .non
  | _, _, .bl b => .bl b
  | _, _, .int i => .int i
  | _, _, .str x => .str x
  | _, _, .lst h n l => .lst (e.keep _ _ h n) (e.nl (.inl h) n) (RpL.ext e l)
  | _, _, .con ⟨o, h⟩ n l => .con ⟨o, e.keep _ _ h n⟩ (e.nl (.inr ⟨o, h⟩) n) (RpL.ext e l)
  | _, _, .conK h l => .conK h (RpL.ext e l)
  | _, _, .tup h n l => .tup (e.rd h n) (e.nl h n) (RpL.ext e l)
  | _, _, .tupK h l => .tupK h (RpL.ext e l)
  | _, _, .ty n => .ty n
  | _, _, .fn h => .fn h
theorem RpL.ext (e : ExtS x0 p q) : ∀ {vs : List V} {ds : List D}, RpL G p vs ds → RpL G q vs ds
  | _, _, .nil => .nil
  | _, _, .cons h t => .cons (Rp.ext e h) (RpL.ext e t)
end
theorem Ru.ext (e : Ext p q) {v : V} {d : U} : Ru G p v d → Ru G q v d
  | .v h => .v (Rp.ext e.toExtS h)
  | .b h1 h2 => .b (Nat.lt_of_lt_of_le h1 e.len) ((e.map _ h1).trans h2)
  | .o h1 h2 h3 => .o ((e.res _ h2).trans h1) (by rw [e.same]; exact h2) (RpL.ext e.toExtS h3)
def notO : U → Bool
  | .o _ => false
  | _ => true
theorem Ru.extS (e : ExtS x0 p q) {v : V} {d : U} (hd : notO d = true) : Ru G p v d → Ru G q v d
  | .v h => .v (Rp.ext e h)
  | .b h1 h2 => .b (Nat.lt_of_lt_of_le h1 e.len) ((e.map _ h1).trans h2)
theorem RuL.ext (e : Ext p q) : ∀ {vs : List V} {ds : List U}, RuL G p vs ds → RuL G q vs ds
  | _, _, .nil => .nil
  | _, _, .cons h t => .cons (h.ext e) (RuL.ext e t)
theorem RuL.length : ∀ {vs : List V} {ds : List U}, RuL G p vs ds → vs.length = ds.length
  | _, _, .nil => rfl
  | _, _, .cons _ t => by rw [List.length_cons, List.length_cons, t.length]
theorem RuL.get : ∀ {vs : List V} {ds : List U} {i : Nat} {d : U}, RuL G p vs ds → ds[i]? = some d → ∃ v, vs[i]? = some v ∧ Ru G p v d
  | _, _, _, _, .nil, h => by simp at h
  | _, _, 0, _, .cons h _, e => by
    have e' := Option.some.inj e
    subst e'
    exact ⟨_, rfl, h⟩
  | _, _, i + 1, d, .cons _ t, e => by
    obtain ⟨v, h1, h2⟩ := RuL.get (i := i) (d := d) t (by simpa using e)
    exact ⟨v, by simpa using h1, h2⟩
/-- attributes: values and boxes, no lists of the frame's own -/
inductive FRel (G : Cn) (p : Pt) : List (Str × V) → List (Str × U) → Prop
  | nil : FRel G p [] []
  | cons {f : Str} {v : V} {d : U} {vs : List (Str × V)} {ds : List (Str × U)} : notO d = true → Ru G p v d → FRel G p vs ds → FRel G p ((f, v) :: vs) ((f, d) :: ds)
theorem FRel.ext (e : ExtS x0 p q) : ∀ {vs : List (Str × V)} {ds : List (Str × U)}, FRel G p vs ds → FRel G q vs ds
  | _, _, .nil => .nil
  | _, _, .cons n h t => .cons n (h.extS e n) (FRel.ext e t)
def BoxOk (G : Cn) (p : Pt) (a : Addr) : Box → Prop
  | .dead => True
  | .lst ds => ∃ vs, p.H a = some (.lst vs) ∧ RpL G p vs ds
  | .ins c fs => ∃ dx vfs, p.H a = some (.ins (G.cm c) dx vfs) ∧ FRel G p vfs fs
structure StR (G : Cn) (p : Pt) : Prop where
  ok : ∀ n b, p.S[n]? = some b → BoxOk G p (p.m n) b
  inj : ∀ i j b c, p.S[i]? = some b → b.live = true → p.S[j]? = some c → c.live = true → p.m i = p.m j → i = j
  sep : ∀ n b, p.S[n]? = some b → b.live = true → ¬ p.x (p.m n)
  res : ∀ a, p.x a → ∃ o, p.H a = some o
structure SlR (G : Cn) (x0 : Addr → Prop) (p : Pt) (σ : L2.St) (ρ : Env) : Prop where
  len : ρ.length = σ.length
  rel : ∀ (i : Nat) (d : U), ρ[i]? = some (some d) → ∃ v, σ[i]? = some (some v) ∧ Ru G p v d
  one : ∀ (i j : Nat) (xs ys : List D) (v : V), ρ[i]? = some (some (.o xs)) → ρ[j]? = some (some (.o ys)) → σ[i]? = some (some v) → σ[j]? = some (some v) → i = j
  out : ∀ (i : Nat) (xs : List D) (a : Addr), ρ[i]? = some (some (.o xs)) → σ[i]? = some (some (.ref a)) → ¬ x0 a
  sub : ∀ a, x0 a → p.x a

theorem SlR.ext {σ : L2.St} {ρ : Env} (s : SlR G x0 p σ ρ) (e : Ext p q) : SlR G x0 q σ ρ :=
  ⟨s.len, fun i d h => let ⟨v, h1, h2⟩ := s.rel i d h; ⟨v, h1, h2.ext e⟩, s.one, s.out, fun a h => by rw [e.same]; exact s.sub a h⟩
theorem SlR.toS {σ : L2.St} {ρ : Env} (s : SlR G x0 p σ ρ) (e : Ext p q) : ExtS x0 p q := e.toExtS.mono s.sub

theorem RpL.length : ∀ {vs : List V} {ds : List D}, RpL G p vs ds → vs.length = ds.length
  | _, _, .nil => rfl
  | _, _, .cons _ t => by rw [List.length_cons, List.length_cons, t.length]
theorem RpL.get : ∀ {vs : List V} {ds : List D} {i : Nat} {d : D}, RpL G p vs ds → ds[i]? = some d → ∃ v, vs[i]? = some v ∧ Rp G p v d
  | _, _, _, _, .nil, h => by simp at h
  | _, _, 0, _, .cons h _, e => by
    have e' := Option.some.inj e
    subst e'
    exact ⟨_, rfl, h⟩
  | _, _, i + 1, d, .cons _ t, e => by
    obtain ⟨v, h1, h2⟩ := RpL.get (i := i) (d := d) t (by simpa using e)
    exact ⟨v, by simpa using h1, h2⟩
theorem RpL.app : ∀ {vs ws : List V} {ds es : List D}, RpL G p vs ds → RpL G p ws es → RpL G p (vs ++ ws) (ds ++ es)
  | _, _, _, _, .nil, h => h
  | _, _, _, _, .cons h t, h2 => .cons h (RpL.app t h2)
theorem RpL.take : ∀ {vs : List V} {ds : List D} (n : Nat), RpL G p vs ds → RpL G p (vs.take n) (ds.take n)
  | _, _, 0, _ => .nil
  | _, _, _ + 1, .nil => .nil
  | _, _, n + 1, .cons h t => .cons h (RpL.take n t)
theorem RpL.drop : ∀ {vs : List V} {ds : List D} (n : Nat), RpL G p vs ds → RpL G p (vs.drop n) (ds.drop n)
  | _, _, 0, h => h
  | _, _, _ + 1, .nil => .nil
  | _, _, n + 1, .cons _ t => RpL.drop n t
theorem RpL.rev {vs : List V} {ds : List D} (h : RpL G p vs ds) : RpL G p vs.reverse ds.reverse := by
  have go : ∀ {vs : List V} {ds : List D}, RpL G p vs ds → RpL G p vs.reverse ds.reverse := by
    intro vs
    induction vs with
    | nil =>
      intro ds h
      cases h
      exact .nil
    | cons v vs ih =>
      intro ds h
      cases h with
      | cons h t =>
        rw [List.reverse_cons, List.reverse_cons]
        exact (ih t).app (.cons h .nil)
  exact go h
theorem RpL.set : ∀ {vs : List V} {ds : List D} {v : V} {d : D} (i : Nat), RpL G p vs ds → Rp G p v d → RpL G p (vs.set i v) (ds.set i d)
  | _, _, _, _, _, .nil, _ => .nil
  | _, _, _, _, 0, .cons _ t, h => .cons h t
  | _, _, _, _, i + 1, .cons h t, h2 => .cons h (RpL.set i t h2)
theorem RpL.none_of : ∀ {vs : List V} {ds : List D} {i : Nat}, RpL G p vs ds → ds[i]? = none → vs[i]? = none := fun {vs ds i} r e => by
  have h1 := r.length
  have h2 : ds.length ≤ i := List.getElem?_eq_none_iff.mp e
  exact List.getElem?_eq_none_iff.mpr (by omega)

theorem StR.here (st : StR G p) {n : Nat} {b : Box} (h : p.S[n]? = some b) (l : b.live = true) : ∃ o, p.H (p.m n) = some o := by
  have k := st.ok n b h
  cases b with
  | dead => cases l
  | lst ds => obtain ⟨vs, e, _⟩ := k; exact ⟨_, e⟩
  | ins c fs => obtain ⟨dx, vfs, e, _⟩ := k; exact ⟨_, e⟩
theorem StR.fresh (st : StR G p) {a : Addr} (h : p.H a = none) : ¬ Live p a := fun l => by
  rcases l with l | ⟨n, b, e, l, ea⟩
  · obtain ⟨o, eo⟩ := st.res a l
    rw [h] at eo; cases eo
  · obtain ⟨o, eo⟩ := st.here e l
    rw [ea, h] at eo; cases eo
theorem BoxOk.ext {a : Addr} {b : Box} (k : BoxOk G p a b) (e : ExtS x0 p q) (h : p.H a = q.H a) : BoxOk G q a b := by
  cases b with
  | dead => trivial
  | lst ds => obtain ⟨vs, h1, h2⟩ := k; exact ⟨vs, h.symm.trans h1, h2.ext e⟩
  | ins c fs => obtain ⟨dx, vfs, h1, h2⟩ := k; exact ⟨dx, vfs, h.symm.trans h1, h2.ext e⟩
theorem dead_of {b : Box} (h : b.live = false) : b = .dead := by
  cases b with
  | dead => rfl
  | lst _ => cases h
  | ins _ _ => cases h

/-- a new object -/
def Pt.new (p : Pt) (a : Addr) (o : HO) : Pt := ⟨upd p.H a o, p.S, p.m, p.x⟩
theorem StR.new (st : StR G p) {a : Addr} (o : HO) (h : p.H a = none) : StR G (p.new a o) ∧ Ext p (p.new a o) ∧ ¬ Live (p.new a o) a := by
  have nl := st.fresh h
  have e : Ext p (p.new a o) := by
    refine ⟨⟨fun b u hb _ => ?_, fun b l => .inl l, fun _ _ => rfl, Nat.le_refl _, fun b hb => upd_ne fun z => nl (.inl (by rw [← z]; exact hb))⟩, rfl⟩
    exact (upd_ne (ne_of_none hb h)).trans hb
  refine ⟨⟨fun n b hb => ?_, st.inj, st.sep, fun b hb => ?_⟩, e, nl⟩
  · have k := st.ok n b hb
    cases hl : b.live with
    | false => rw [dead_of hl]; trivial
    | true =>
      refine k.ext e.toExtS ?_
      have ne : p.m n ≠ a := fun z => nl (.inr ⟨n, b, hb, hl, z⟩)
      exact (upd_ne ne).symm
  · obtain ⟨u, hu⟩ := st.res b hb
    exact ⟨u, (upd_ne (ne_of_none hu h)).trans hu⟩
/-- a new object that is a box -/
def Pt.more (p : Pt) (a : Addr) (o : HO) (b : Box) : Pt := ⟨upd p.H a o, p.S ++ [b], fun n => if n = p.S.length then a else p.m n, p.x⟩
theorem get_more {b : Box} {S : List Box} {n : Nat} {c : Box} (h : (S ++ [b])[n]? = some c) : (n < S.length ∧ S[n]? = some c) ∨ (n = S.length ∧ c = b) := by
  by_cases hn : n < S.length
  · rw [List.getElem?_append_left hn] at h
    exact .inl ⟨hn, h⟩
  · rw [List.getElem?_append_right (by omega)] at h
    have h0 : n - S.length = 0 := by
      cases e : n - S.length with
      | zero => rfl
      | succ k => rw [e] at h; simp at h
    rw [h0] at h
    exact .inr ⟨by omega, (Option.some.inj h).symm⟩
theorem StR.more (st : StR G p) {a : Addr} (o : HO) (b : Box) (h : p.H a = none) (hb : ∀ q, Ext p q → q.H a = some o → BoxOk G q a b) : StR G (p.more a o b) ∧ Ext p (p.more a o b) := by
  have nl := st.fresh h
  have nx : ∀ b, p.x b → b ≠ a := fun b hb z => nl (.inl (by rw [← z]; exact hb))
  have mlt : ∀ n, n < p.S.length → (p.more a o b).m n = p.m n := fun n hn => by
    show (if n = p.S.length then a else p.m n) = p.m n
    rw [if_neg (Nat.ne_of_lt hn)]
  have meq : (p.more a o b).m p.S.length = a := by
    show (if p.S.length = p.S.length then a else p.m p.S.length) = a
    rw [if_pos rfl]
  have e : Ext p (p.more a o b) := by
    refine ⟨⟨fun c u hc _ => (upd_ne (ne_of_none hc h)).trans hc, fun c l => ?_, mlt, ?_, fun c hc => upd_ne (nx c hc)⟩, rfl⟩
    · rcases l with l | ⟨n, x, hx, hl, hm⟩
      · exact .inl (.inl l)
      · rcases get_more hx with ⟨hn, hx'⟩ | ⟨hn, hx'⟩
        · rw [mlt n hn] at hm
          exact .inl (.inr ⟨n, x, hx', hl, hm⟩)
        · rw [hn, meq] at hm
          exact .inr (by rw [← hm]; exact h)
    · show p.S.length ≤ (p.S ++ [b]).length
      rw [List.length_append]; omega
  have ha : (p.more a o b).H a = some o := upd_same
  refine ⟨⟨fun n c hc => ?_, fun i j c d hi li hj lj hm => ?_, fun n c hc lc hx => ?_, fun c hc => ?_⟩, e⟩
  · rcases get_more hc with ⟨hn, hc'⟩ | ⟨hn, hc'⟩
    · rw [mlt n hn]
      have k := st.ok n c hc'
      cases hl : c.live with
      | false => rw [dead_of hl]; trivial
      | true =>
        refine k.ext e.toExtS ?_
        have ne : p.m n ≠ a := fun z => nl (.inr ⟨n, c, hc', hl, z⟩)
        exact (upd_ne ne).symm
    · subst hc' hn
      rw [meq]
      exact hb _ e ha
  · rcases get_more hi with ⟨hi1, hi2⟩ | ⟨hi1, hi2⟩
    · rcases get_more hj with ⟨hj1, hj2⟩ | ⟨hj1, hj2⟩
      · rw [mlt i hi1, mlt j hj1] at hm
        exact st.inj i j c d hi2 li hj2 lj hm
      · rw [mlt i hi1, hj1, meq] at hm
        exact absurd (.inr ⟨i, c, hi2, li, hm⟩) nl
    · rcases get_more hj with ⟨hj1, hj2⟩ | ⟨hj1, hj2⟩
      · rw [mlt j hj1, hi1, meq] at hm
        exact absurd (.inr ⟨j, d, hj2, lj, hm.symm⟩) nl
      · omega
  · have hx : p.x ((p.more a o b).m n) := hx
    rcases get_more hc with ⟨hn, hc'⟩ | ⟨hn, hc'⟩
    · rw [mlt n hn] at hx
      exact st.sep n c hc' lc hx
    · rw [hn, meq] at hx
      exact nl (.inl hx)
  · obtain ⟨u, hu⟩ := st.res c hc
    exact ⟨u, (upd_ne (ne_of_none hu h)).trans hu⟩
/-- a box is changed -/
def Pt.put (p : Pt) (n : Nat) (o : HO) (b' : Box) : Pt := ⟨upd p.H (p.m n) o, p.S.set n b', p.m, p.x⟩
theorem StR.put (st : StR G p) {n : Nat} {b b' : Box} {o : HO} (hn : p.S[n]? = some b) (hl : b.live = true)
    (hb : ∀ q, Ext p q → q.H (p.m n) = some o → BoxOk G q (p.m n) b') : StR G (p.put n o b') ∧ Ext p (p.put n o b') := by
  have hlt : n < p.S.length := (List.getElem?_eq_some_iff.mp hn).1
  have nx : ∀ b, p.x b → b ≠ p.m n := fun c hc z => st.sep n b hn hl (by rw [← z]; exact hc)
  have back : ∀ (k : Nat) (c : Box), (p.S.set n b')[k]? = some c → c.live = true → ∃ c', p.S[k]? = some c' ∧ c'.live = true := fun k c hk lk => by
    by_cases z : n = k
    · subst z; exact ⟨b, hn, hl⟩
    · rw [List.getElem?_set_ne z] at hk; exact ⟨c, hk, lk⟩
  have e : Ext p (p.put n o b') := by
    refine ⟨⟨fun c u hc nl => ?_, fun c l => ?_, fun _ _ => rfl, by show _ ≤ (p.S.set n b').length; rw [List.length_set]; exact Nat.le_refl _, fun c hc => upd_ne (nx c hc)⟩, rfl⟩
    · have ne : c ≠ p.m n := fun z => nl (.inr ⟨n, b, hn, hl, z.symm⟩)
      exact (upd_ne ne).trans hc
    · rcases l with l | ⟨k, c', hk, lk, hm⟩
      · exact .inl (.inl l)
      · obtain ⟨c2, h2, l2⟩ := back k c' hk lk
        exact .inl (.inr ⟨k, c2, h2, l2, hm⟩)
  refine ⟨⟨fun k c hk => ?_, fun i j c d hi li hj lj hm => ?_, fun k c hk lk hx => ?_, fun c hc => ?_⟩, e⟩
  · by_cases z : n = k
    · subst z
      have hk' : (p.S.set n b')[n]? = some c := hk
      rw [List.getElem?_set_self hlt] at hk'
      have z2 := Option.some.inj hk'
      subst z2
      exact hb _ e upd_same
    · have hk' : (p.S.set n b')[k]? = some c := hk
      rw [List.getElem?_set_ne z] at hk'
      have k1 := st.ok k c hk'
      cases lc : c.live with
      | false => rw [dead_of lc]; trivial
      | true =>
        refine k1.ext e.toExtS ?_
        have ne : p.m k ≠ p.m n := fun y => z (st.inj n k b c hn hl hk' lc y.symm)
        exact (upd_ne ne).symm
  · obtain ⟨c2, h2, l2⟩ := back i c hi li
    obtain ⟨d2, h3, l3⟩ := back j d hj lj
    exact st.inj i j c2 d2 h2 l2 h3 l3 hm
  · obtain ⟨c2, h2, l2⟩ := back k c hk lk
    exact st.sep k c2 h2 l2 hx
  · obtain ⟨u, hu⟩ := st.res c hc
    exact ⟨u, (upd_ne (nx c hc)).trans hu⟩
/-- only what is owned, and which boxes live, changes; the heap stays -/
theorem StR.same {S' : List Box} {x' : Addr → Prop} (st : StR G p) (hl : S'.length = p.S.length) (h : ∀ (n : Nat) (b : Box), S'[n]? = some b → b = .dead ∨ p.S[n]? = some b) (hx : ∀ a, x' a → p.x a) :
    StR G ⟨p.H, S', p.m, x'⟩ ∧ (∀ x0, ExtS x0 p ⟨p.H, S', p.m, x'⟩) := by
  have back : ∀ (k : Nat) (c : Box), S'[k]? = some c → c.live = true → p.S[k]? = some c := fun k c hk lk => by
    rcases h k c hk with z | z
    · subst z; cases lk
    · exact z
  have e : ∀ x0, ExtS x0 p ⟨p.H, S', p.m, x'⟩ := fun x0 => ⟨fun c u hc _ => hc, fun c l => by
    rcases l with l | ⟨k, b, hk, lk, hm⟩
    · exact .inl (.inl (hx c l))
    · exact .inl (.inr ⟨k, b, back k b hk lk, lk, hm⟩), fun _ _ => rfl, by show _ ≤ S'.length; omega, fun _ _ => rfl⟩
  refine ⟨⟨fun k c hk => ?_, fun i j c d hi li hj lj hm => st.inj i j c d (back i c hi li) li (back j d hj lj) lj hm, fun k c hk lk hx2 => st.sep k c (back k c hk lk) lk (hx _ hx2), fun c hc => st.res c (hx c hc)⟩, e⟩
  rcases h k c hk with z | z
  · subst z; trivial
  · exact (st.ok k c z).ext (e fun _ => False) rfl
end
end Rn
set_option Elab.async false
set_option linter.all false
set_option maxRecDepth 100000
set_option maxHeartbeats 4000000
namespace Rn
open PySem L2

/-! ## outcomes and what is wanted of them -/
structure ERel (G : Cn) (p : Pt) (x : Exn) (cls : Value) (dx : Option Addr) : Prop where
  cls : cls = .ref (G.cm x.c)
  fs : x.fs = [] ∨ ∃ d vfs, dx = some d ∧ p.H d = some (.xd vfs) ∧ ¬ Live p d ∧ FRel G p vfs (x.fs.map fun f => (f.1, .v f.2))
def RPost {α : Type} (G : Cn) (p : Pt) (W : XK) (r : Res α) (Q : α → Pt → Prop) : Prop := match r with
  | .ok a S => ∀ q : Pt, q.S = S → StR G q → Ext p q → Q a q
  | .ex x S => ∀ (q : Pt) (cls : Value) (dx : Option Addr), q.S = S → StR G q → Ext p q → ERel G q x cls dx → W cls dx q.H
  | .no => False
section
variable {G : Cn} {p q : Pt} {α β : Type} {W : XK} {r : Res α} {Q Q' : α → Pt → Prop}
theorem RPost.ext (e : Ext p q) (h : RPost G p W r Q) : RPost G q W r Q := by
  cases r with
  | ok a S => exact fun t h1 h2 h3 => h t h1 h2 (e.trans h3)
  | ex x S => exact fun t c d h1 h2 h3 h4 => h t c d h1 h2 (e.trans h3) h4
  | no => exact h
theorem RPost.mono (h : RPost G p W r Q) (k : ∀ a q, StR G q → Ext p q → Q a q → Q' a q) : RPost G p W r Q' := by
  cases r with
  | ok a S => exact fun t h1 h2 h3 => k a t h2 h3 (h t h1 h2 h3)
  | ex x S => exact h
  | no => exact h
theorem RPost.bind {f : α → List Box → Res β} {R : β → Pt → Prop} (h : RPost G p W (r.bind f) R) : RPost G p W r (fun a q => RPost G q W (f a q.S) R) := by
  cases r with
  | ok a S =>
    intro t h1 h2 h3
    have h' : RPost G p W (f a S) R := h
    rw [h1]
    exact h'.ext h3
  | ex x S => exact h
  | no => exact h
theorem RPost.here {a : α} (st : StR G p) (h : RPost G p W (.ok a p.S) Q) : Q a p := h p rfl st (Ext.refl p)
end

def tV (G : Cn) (W : WX) (c : CE) : TE := fun σ H Q => ∃ (ρ : Env) (p : Pt) (x0 : Addr → Prop), p.H = H ∧ StR G p ∧ SlR G x0 p σ ρ ∧ RPost G p (WE W σ) (c ρ p.S) (fun d q => ∀ v, Ru G q v d → Q v q.H)
def tVb (G : Cn) (W : WX) (c : CB) : TT := fun σ H Q => ∃ (ρ : Env) (p : Pt) (x0 : Addr → Prop), p.H = H ∧ StR G p ∧ SlR G x0 p σ ρ ∧ RPost G p (WE W σ) (c ρ p.S) (fun b q => Q b q.H)
def tVa (G : Cn) (W : WX) (c : CA) : TA := fun σ H Q => ∃ (ρ : Env) (p : Pt) (x0 : Addr → Prop), p.H = H ∧ StR G p ∧ SlR G x0 p σ ρ ∧ RPost G p (WE W σ) (c ρ p.S) (fun ds q => ∀ vs, RuL G q vs ds → Q vs q.H)

theorem pe_imp {X : Cx} {e : Expr} {t t' : TE} (h : PE X e t) (k : ∀ σ H Q, t' σ H Q → t σ H Q) : PE X e t' := ⟨fun pins s σ H Q I q => h.run pins s σ H Q I (k σ H Q q)⟩
theorem pt_imp {X : Cx} {e : Expr} {t t' : TT} (h : PT X e t) (k : ∀ σ H Q, t' σ H Q → t σ H Q) : PT X e t' := ⟨fun pins s σ H Q I q => h.run pins s σ H Q I (k σ H Q q)⟩
theorem pw_imp {X : Cx} {e : Expr} {t t' : TT} (h : PW X e t) (k : ∀ σ H Q, t' σ H Q → t σ H Q) : PW X e t' := ⟨fun w pins s σ H Q I q => h.run w pins s σ H Q I (k σ H Q q)⟩
theorem pa_imp {X : Cx} {e : List Expr} {t t' : TA} (h : PA X e t) (k : ∀ σ H Q, t' σ H Q → t σ H Q) : PA X e t' := ⟨fun w pins s σ H Q I q => h.run w pins s σ H Q I (k σ H Q q)⟩
theorem ps_imp {X : Cx} {e : Stmt} {t t' : TS} (h : PS X e t) (k : ∀ D σ H, t' D σ H → t D σ H) : PS X e t' := ⟨fun pins s σ H D I q => h.run pins s σ H D I (k D σ H q)⟩
theorem pss_imp {X : Cx} {e : List Stmt} {t t' : TS} (h : PSs X e t) (k : ∀ D σ H, t' D σ H → t D σ H) : PSs X e t' := ⟨fun pins s σ H D I q => h.run pins s σ H D I (k D σ H q)⟩

/-! ## semantic functions of expressions -/
def cVar (i : Nat) : CE := fun ρ S => match ρ[i]? with
  | some (some d) => .ok d S
  | _ => .no
def cK (d : D) : CE := fun _ S => .ok (.v d) S
abbrev OD2 := U → U → List Box → Option D
abbrev OD1 := U → List Box → Option D
def opt (o : Option D) (S : List Box) : Res U := match o with
  | some d => .ok (.v d) S
  | none => .no
def cBin (o : OD2) (a b : CE) : CE := fun ρ S => (a ρ S).bind fun x S1 => (b ρ S1).bind fun y S2 => opt (o x y S2) S2
def cUn (o : OD1) (a : CE) : CE := fun ρ S => (a ρ S).bind fun x S1 => opt (o x S1) S1
def cIf (t : CB) (a b : CE) : CE := fun ρ S => (t ρ S).bind fun k S1 => if k = true then a ρ S1 else b ρ S1
def bRes (d : U) (S : List Box) : Res Bool := match d with
  | .v (.bl b) => .ok b S
  | _ => .no
def bOf (c : CE) : CB := fun ρ S => (c ρ S).bind bRes
def asL (d : U) (S : List Box) : Option (List D) := match d with
  | .v (.lst xs) => some xs
  | .o xs => some xs
  | .b n => match S[n]? with
    | some (.lst xs) => some xs
    | _ => none
  | _ => none
/-- any list or tuple that is read -/
def asQ (d : U) (S : List Box) : Option (List D) := match d with
  | .v (.tup xs) => some xs
  | .v (.con xs) => some xs
  | d => asL d S
def dTru (d : U) (S : List Box) : Option Bool := match d with
  | .v .non => some false
  | .v (.bl b) => some b
  | .v (.int i) => some (i != 0)
  | .v (.str y) => if y.length ≤ sizeLine then some ((y.length : Int) != 0) else none
  | d => (asQ d S).map fun xs => !xs.isEmpty
def bTruR (d : U) (S : List Box) : Res Bool := match dTru d S with
  | some b => .ok b S
  | none => .no
def bTru (c : CE) : CB := fun ρ S => (c ρ S).bind bTruR
def bNot (c : CB) : CB := fun ρ S => (c ρ S).bind fun b S1 => .ok (!b) S1
def bAnd (a b : CB) : CB := fun ρ S => (a ρ S).bind fun k S1 => if k = true then b ρ S1 else .ok false S1
def bOr (a b : CB) : CB := fun ρ S => (a ρ S).bind fun k S1 => if k = true then .ok true S1 else b ρ S1
def cAnd (a b : CE) : CE := fun ρ S => (a ρ S).bind fun x S1 => (bTruR x S1).bind fun k S2 => if k = true then b ρ S2 else .ok x S2
def cOr (a b : CE) : CE := fun ρ S => (a ρ S).bind fun x S1 => (bTruR x S1).bind fun k S2 => if k = true then .ok x S2 else b ρ S2
def cNot (a : CE) : CE := fun ρ S => (a ρ S).bind fun x S1 => (bTruR x S1).bind fun k S2 => .ok (.v (.bl (!k))) S2
def cChain (o o' : OD2) (a b c : CE) : CE := fun ρ S => (a ρ S).bind fun x S1 => (b ρ S1).bind fun y S2 => (opt (o x y S2) S2).bind fun z S3 => (bRes z S3).bind fun k S4 =>
  if k = true then (c ρ S4).bind fun w S5 => opt (o' y w S5) S5 else .ok (.v (.bl false)) S4
/-- arguments of a call -/
def evL : List CE → CA
  | [] => fun _ S => .ok [] S
  | c :: cs => fun ρ S => (c ρ S).bind fun d S1 => (evL cs ρ S1).bind fun ds S2 => .ok (d :: ds) S2
def pures : List U → Option (List D)
  | [] => some []
  | .v d :: us => (pures us).map fun ds => d :: ds
  | _ => none
def tupR (us : List U) (S : List Box) : Res U := match pures us with
  | some ds => .ok (.v (.tup ds)) S
  | none => .no
def cTup (cs : List CE) : CE := fun ρ S => (evL cs ρ S).bind tupR
/-! lists that are new: c gives the items -/
abbrev CL := Env → List Box → Res (List D)
def lstR (us : List U) (S : List Box) : Res (List D) := match pures us with
  | some ds => .ok ds S
  | none => .no
def cLst (cs : List CE) : CL := fun ρ S => (evL cs ρ S).bind lstR
/-- the new list as a value that never changes; as a box -/
def cVal (c : CL) : CE := fun ρ S => (c ρ S).bind fun xs S1 => .ok (.v (.lst xs)) S1
def cBox (c : CL) : CE := fun ρ S => (c ρ S).bind fun xs S1 => .ok (.b S1.length) (S1 ++ [.lst xs])
def tF (G : Cn) (W : WX) (c : CL) : TE := fun σ H Q => ∃ (ρ : Env) (p : Pt) (x0 : Addr → Prop), p.H = H ∧ StR G p ∧ SlR G x0 p σ ρ ∧ RPost G p (WE W σ) (c ρ p.S) (fun xs q => ∀ (a : Addr) (vs : List V), q.H a = none → RpL G q vs xs → Q (.ref a) (upd q.H a (.lst vs)))

theorem evL_length : ∀ (cs : List CE) (ρ : Env) (S : List Box) (ds : List U) (S' : List Box), evL cs ρ S = .ok ds S' → ds.length = cs.length
  | [], ρ, S, ds, S', h => by
    have h' : Res.ok [] S = Res.ok ds S' := h
    injection h' with h1 h2
    rw [← h1]
    rfl
  | c :: cs, ρ, S, ds, S', h => by
    have h' : ((c ρ S).bind fun d S1 => (evL cs ρ S1).bind fun ds S2 => Res.ok (d :: ds) S2) = Res.ok ds S' := h
    cases e : c ρ S with
    | ok d S1 =>
      rw [e] at h'
      have h2 : ((evL cs ρ S1).bind fun ds S2 => Res.ok (d :: ds) S2) = Res.ok ds S' := h'
      cases e2 : evL cs ρ S1 with
      | ok es S2 =>
        rw [e2] at h2
        have h3 : Res.ok (d :: es) S2 = Res.ok ds S' := h2
        injection h3 with h4 h5
        rw [← h4, List.length_cons, List.length_cons, evL_length cs ρ S1 es S2 e2]
      | ex x S2 =>
        rw [e2] at h2
        cases h2
      | no =>
        rw [e2] at h2
        cases h2
    | ex x S1 =>
      rw [e] at h'
      cases h'
    | no =>
      rw [e] at h'
      cases h'
theorem pures_rel {G : Cn} {p : Pt} : ∀ {us : List U} {vs : List V} {ds : List D}, RuL G p vs us → pures us = some ds → RpL G p vs ds ∧ ds.length = us.length
  | [], _, ds, .nil, h => by
    have z : [] = ds := Option.some.inj h
    subst z
    exact ⟨.nil, rfl⟩
  | .v d :: us, _, ds, .cons r t, h => by
    have h' : (pures us).map (fun ds => d :: ds) = some ds := h
    cases e : pures us with
    | none => rw [e] at h'; cases h'
    | some es =>
      rw [e] at h'
      have z : d :: es = ds := Option.some.inj h'
      subst z
      obtain ⟨h1, h2⟩ := pures_rel t e
      cases r with
      | v r => exact ⟨.cons r h1, by rw [List.length_cons, List.length_cons, h2]⟩
  | .b _ :: us, _, ds, _, h => by cases h
  | .o _ :: us, _, ds, _, h => by cases h

/-! ## reading lists and tuples -/
section
variable {G : Cn} {p q : Pt} {v : V} {d : U} {xs : List D}
theorem rd_L (st : StR G p) (r : Ru G p v d) (h : asL d p.S = some xs) : ∃ a vs, v = .ref a ∧ p.H a = some (.lst vs) ∧ RpL G p vs xs := by
  cases r with
  | v r =>
    cases r with
    | lst e n l =>
      cases h
      exact ⟨_, _, rfl, e, l⟩
    | _ => cases h
  | o h1 h2 h3 =>
    cases h
    exact ⟨_, _, rfl, h1, h3⟩
  | @b a n hn hm =>
    have h' : (match p.S[n]? with | some (.lst xs) => some xs | _ => none) = some xs := h
    cases e : p.S[n]? with
    | none => rw [e] at h'; cases h'
    | some b =>
      rw [e] at h'
      cases b with
      | dead => cases h'
      | ins c fs => cases h'
      | lst ys =>
        have z : some ys = some xs := h'
        cases z
        obtain ⟨vs, h1, h2⟩ := st.ok n _ e
        rw [hm] at h1
        exact ⟨a, vs, rfl, h1, h2⟩
theorem rd_T (r : Ru G p v (.v (.tup xs))) : ∃ a vs, v = .ref a ∧ SqT G.K p.H a vs ∧ RpL G p vs xs := by
  cases r with
  | v r =>
    cases r with
    | tup e n l => exact ⟨_, _, rfl, .inl e, l⟩
    | tupK e l => exact ⟨_, _, rfl, .inr e, l⟩
theorem rd_Q (st : StR G p) (r : Ru G p v d) (h : asQ d p.S = some xs) : ∃ a vs, v = .ref a ∧ (SqL G.K p.H a vs ∨ SqT G.K p.H a vs) ∧ RpL G p vs xs := by
  have viaL : asL d p.S = some xs → ∃ a vs, v = .ref a ∧ (SqL G.K p.H a vs ∨ SqT G.K p.H a vs) ∧ RpL G p vs xs := fun h => by
    obtain ⟨a, vs, e, h1, h2⟩ := rd_L st r h
    exact ⟨a, vs, e, .inl (SqL.of h1), h2⟩
  cases r with
  | v r =>
    cases r with
    | tup e n l =>
      cases h
      exact ⟨_, _, rfl, .inr (.inl e), l⟩
    | tupK e l =>
      cases h
      exact ⟨_, _, rfl, .inr (.inr e), l⟩
    | con e n l =>
      cases h
      exact ⟨_, _, rfl, .inl (.inl (.inr e)), l⟩
    | conK e l =>
      cases h
      exact ⟨_, _, rfl, .inl (.inr e), l⟩
    | non => exact viaL h
    | bl b => exact viaL h
    | int i => exact viaL h
    | str x => exact viaL h
    | lst e n l => exact viaL h
    | ty n => exact viaL h
    | fn h1 => exact viaL h
  | b h1 h2 => exact viaL h
  | o h1 h2 h3 => exact viaL h
theorem rd_tru {k : Bool} (st : StR G p) (r : Ru G p v d) (h : dTru d p.S = some k) : TruV G.K v p.H k := by
  have viaQ : (asQ d p.S).map (fun xs => !xs.isEmpty) = some k → TruV G.K v p.H k := fun h => by
    cases e : asQ d p.S with
    | none => rw [e] at h; cases h
    | some xs =>
      rw [e] at h
      have hk : (!xs.isEmpty) = k := Option.some.inj h
      obtain ⟨a, vs, rfl, h1, h2⟩ := rd_Q st r e
      have em : vs.isEmpty = xs.isEmpty := by cases h2 <;> rfl
      rcases h1 with h1 | h1
      · exact .inl ⟨vs, h1, by rw [em]; exact hk.symm⟩
      · exact .inr (.inl ⟨vs, h1, by rw [em]; exact hk.symm⟩)
  cases r with
  | b h1 h2 => exact viaQ h
  | o h1 h2 h3 => exact viaQ h
  | v r =>
    cases r with
    | non => exact (Option.some.inj h).symm
    | bl b => exact (Option.some.inj h).symm
    | int i => exact (Option.some.inj h).symm
    | str x =>
      have h' : (if x.length ≤ sizeLine then some ((x.length : Int) != 0) else none) = some k := h
      by_cases hx : x.length ≤ sizeLine
      · rw [if_pos hx] at h'
        exact ⟨hx, (Option.some.inj h').symm⟩
      · rw [if_neg hx] at h'
        cases h'
    | lst e n l => exact viaQ h
    | con e n l => exact viaQ h
    | conK e l => exact viaQ h
    | tup e n l => exact viaQ h
    | tupK e l => exact viaQ h
    | ty n => exact viaQ h
    | fn h1 => exact viaQ h
end

/-! ## rules for expressions -/
abbrev Gx (X : Cx) (cm : Nat → Addr) : Cn := ⟨X.K, cm⟩
/-- a two-place operation on values -/
def rO (G : Cn) (o : OD2) : R2 := fun x y H Q => ∃ (p : Pt) (dx dy : U) (d : D), p.H = H ∧ StR G p ∧ Ru G p x dx ∧ Ru G p y dy ∧ o dx dy p.S = some d ∧ ∀ (q : Pt) (v : V), q.S = p.S → StR G q → Ext p q → Rp G q v d → Q v q.H
def rO1 (G : Cn) (o : OD1) : V → Hp → VK → Prop := fun x H Q => ∃ (p : Pt) (dx : U) (d : D), p.H = H ∧ StR G p ∧ Ru G p x dx ∧ o dx p.S = some d ∧ ∀ (q : Pt) (v : V), q.S = p.S → StR G q → Ext p q → Rp G q v d → Q v q.H

section
variable {X : Cx} {cm : Nat → Addr} {W : WX} {pos : Pos} {a b c e : Expr} {es rest : List Expr} {ca cb cc : CE} {ta tb : CB} {o o' : OD2} {o1 : OD1}
theorem e_var {i : Nat} {x : Str} (h : PE X (.Name x pos) (tVar i)) : PE X (.Name x pos) (tV (Gx X cm) W (cVar i)) := by
  refine pe_imp h fun σ H Q ⟨ρ, p, x0, hH, st, sl, k⟩ => ?_
  unfold cVar at k
  cases e : ρ[i]? with
  | none => rw [e] at k; exact k.elim
  | some od =>
    rw [e] at k
    cases od with
    | none => exact k.elim
    | some d =>
      obtain ⟨v, h1, h2⟩ := sl.rel i d e
      have k2 := RPost.here st k v h2
      rw [hH] at k2
      exact ⟨v, h1, k2⟩
theorem e_con {v : V} {d : D} (h : PE X e (tC v)) (r : ∀ p, Rp (Gx X cm) p v d) : PE X e (tV (Gx X cm) W (cK d)) := by
  refine pe_imp h fun σ H Q ⟨ρ, p, x0, hH, st, sl, k⟩ => ?_
  have k2 := RPost.here st k v (.v (r p))
  rw [hH] at k2
  exact k2
theorem e_int {i : Int} {j : Nat} : PE X (.Constant (.int i) j pos) (tV (Gx X cm) W (cK (.int i))) := e_con pe_int fun _ => .int i
theorem e_bl {i : Bool} {j : Nat} : PE X (.Constant (.bool i) j pos) (tV (Gx X cm) W (cK (.bl i))) := e_con pe_bl fun _ => .bl i
theorem e_non {j : Nat} : PE X (.Constant .none j pos) (tV (Gx X cm) W (cK .non)) := e_con pe_non fun _ => .non
theorem e_str {i : Str} {j : Nat} : PE X (.Constant (.str i) j pos) (tV (Gx X cm) W (cK (.str i))) := e_con pe_str fun _ => .str i

theorem bin_imp {σ : L2.St} {H : Hp} {Q : VK} (h : tV (Gx X cm) W (cBin o ca cb) σ H Q) : tOp (rO (Gx X cm) o) (tV (Gx X cm) W ca) (tV (Gx X cm) W cb) σ H Q := by
  obtain ⟨ρ, p, x0, hH, st, sl, k⟩ := h
  refine ⟨ρ, p, x0, hH, st, sl, (RPost.bind k).mono fun x q sq eq k2 v rv => ?_⟩
  refine ⟨ρ, q, x0, rfl, sq, sl.ext eq, (RPost.bind k2).mono fun y t st2 et k3 w rw' => ?_⟩
  cases eo : o x y t.S with
  | none => rw [eo] at k3; exact k3.elim
  | some d =>
    rw [eo] at k3
    exact ⟨t, x, y, d, rfl, st2, rv.ext et, rw', eo, fun u v h1 h2 h3 h4 => k3 u h1 h2 h3 v (.v h4)⟩
theorem e_bin {op : Operator} (ho : OpR X (binaryOp op) (rO (Gx X cm) o)) (ha : PE X a (tV (Gx X cm) W ca)) (hb : PE X b (tV (Gx X cm) W cb)) : PE X (.BinOp a op b pos) (tV (Gx X cm) W (cBin o ca cb)) :=
  pe_imp (pe_op ho ha hb) fun _ _ _ => bin_imp
theorem e_cmp {op : CmpOp} (ho : OpR X (compareOp op) (rO (Gx X cm) o)) (ha : PE X a (tV (Gx X cm) W ca)) (hb : PE X b (tV (Gx X cm) W cb)) (hm : behindInMarks op b = false) : PE X (.Compare a [op] [b] pos) (tV (Gx X cm) W (cBin o ca cb)) :=
  pe_imp (pe_cmpR ho ha hb hm) fun _ _ _ => bin_imp
/-- a value that is True or False, as a test's outcome -/
theorem bof_imp {t : CE} {σ : L2.St} {H : Hp} {Q : Bool → Hp → Prop} (h : tVb (Gx X cm) W (bOf t) σ H Q) : tV (Gx X cm) W t σ H fun x H1 => ∃ k, x = .bl k ∧ Q k H1 := by
  obtain ⟨ρ, p, x0, hH, st, sl, k⟩ := h
  refine ⟨ρ, p, x0, hH, st, sl, (RPost.bind k).mono fun x q sq eq k2 v rv => ?_⟩
  cases rv with
  | v rv =>
    cases rv with
    | bl b => exact ⟨b, rfl, RPost.here sq k2⟩
    | _ => exact (show False from k2).elim
  | b h1 h2 => exact (show False from k2).elim
  | o h1 h2 h3 => exact (show False from k2).elim
theorem b_cmp {op : CmpOp} (ho : OpR X (compareOp op) (rO (Gx X cm) o)) (ha : PE X a (tV (Gx X cm) W ca)) (hb : PE X b (tV (Gx X cm) W cb)) (hm : behindInMarks op b = false) : PT X (.Compare a [op] [b] pos) (tVb (Gx X cm) W (bOf (cBin o ca cb))) :=
  pt_imp (pt_cmpR ho ha hb hm) fun _ _ _ h => bin_imp (bof_imp h)
theorem tru_imp {σ : L2.St} {H : Hp} {Q : Bool → Hp → Prop} (h : tVb (Gx X cm) W (bTru ca) σ H Q) : tV (Gx X cm) W ca σ H fun x H' => ∃ k, TruV X.K x H' k ∧ Q k H' := by
  obtain ⟨ρ, p, x0, hH, st, sl, k⟩ := h
  refine ⟨ρ, p, x0, hH, st, sl, (RPost.bind k).mono fun x q sq eq k2 v rv => ?_⟩
  unfold bTruR at k2
  cases e : dTru x q.S with
  | none => rw [e] at k2; exact k2.elim
  | some b =>
    rw [e] at k2
    exact ⟨b, rd_tru sq rv e, RPost.here sq k2⟩
theorem b_tru (ha : PE X a (tV (Gx X cm) W ca)) (he : ∀ whole, isTrue a X.env whole = (do let v ← whole; standAt a.pos; holding [v] (truthy v)) := by intro _; rfl) : PT X a (tVb (Gx X cm) W (bTru ca)) :=
  pt_imp (pt_truth ha he) fun _ _ _ h => tru_imp h
theorem b_not (ha : PT X a (tVb (Gx X cm) W ta)) : PT X (.UnaryOp .Not a pos) (tVb (Gx X cm) W (bNot ta)) := by
  refine pt_imp (pt_not ha) fun σ H Q ⟨ρ, p, x0, hH, st, sl, k⟩ => ?_
  exact ⟨ρ, p, x0, hH, st, sl, (RPost.bind k).mono fun x q sq eq k2 => RPost.here sq k2⟩
theorem w_and1 (ha : PT X a (tVb (Gx X cm) W ta)) : PW X (.BoolOp .And [a] pos) (tVb (Gx X cm) W ta) := pw_and1 ha
theorem w_or1 (ha : PT X a (tVb (Gx X cm) W ta)) : PW X (.BoolOp .Or [a] pos) (tVb (Gx X cm) W ta) := pw_or1 ha
theorem w_and (ha : PT X a (tVb (Gx X cm) W ta)) (hb : PW X (.BoolOp .And (b :: rest) pos) (tVb (Gx X cm) W tb)) : PW X (.BoolOp .And (a :: b :: rest) pos) (tVb (Gx X cm) W (bAnd ta tb)) := by
  refine pw_imp (pw_and ha hb) fun σ H Q ⟨ρ, p, x0, hH, st, sl, k⟩ => ?_
  refine ⟨ρ, p, x0, hH, st, sl, (RPost.bind k).mono fun x q sq eq k2 => ?_⟩
  cases x with
  | true => exact ⟨ρ, q, x0, rfl, sq, sl.ext eq, k2⟩
  | false => exact RPost.here sq k2
theorem w_or (ha : PT X a (tVb (Gx X cm) W ta)) (hb : PW X (.BoolOp .Or (b :: rest) pos) (tVb (Gx X cm) W tb)) : PW X (.BoolOp .Or (a :: b :: rest) pos) (tVb (Gx X cm) W (bOr ta tb)) := by
  refine pw_imp (pw_or ha hb) fun σ H Q ⟨ρ, p, x0, hH, st, sl, k⟩ => ?_
  refine ⟨ρ, p, x0, hH, st, sl, (RPost.bind k).mono fun x q sq eq k2 => ?_⟩
  cases x with
  | false => exact ⟨ρ, q, x0, rfl, sq, sl.ext eq, k2⟩
  | true => exact RPost.here sq k2
theorem tr_step {x : U} {q : Pt} {v : V} {β : Type} {f : Bool → List Box → Res β} {R : β → Pt → Prop} {Wk : XK} (sq : StR (Gx X cm) q) (rv : Ru (Gx X cm) q v x) (k : RPost (Gx X cm) q Wk ((bTruR x q.S).bind f) R) : ∃ b, TruV X.K v q.H b ∧ RPost (Gx X cm) q Wk (f b q.S) R := by
  unfold bTruR at k
  cases e : dTru x q.S with
  | none => rw [e] at k; exact k.elim
  | some b =>
    rw [e] at k
    exact ⟨b, rd_tru sq rv e, k⟩
theorem e_one {op : BoolOp} (ha : PE X a (tV (Gx X cm) W ca)) : PE X (.BoolOp op [a] pos) (tV (Gx X cm) W ca) := pe_one ha
theorem e_and (ha : PE X a (tV (Gx X cm) W ca)) (hb : PE X (.BoolOp .And (b :: rest) pos) (tV (Gx X cm) W cb)) : PE X (.BoolOp .And (a :: b :: rest) pos) (tV (Gx X cm) W (cAnd ca cb)) := by
  refine pe_imp (pe_andT ha hb) fun σ H Q ⟨ρ, p, x0, hH, st, sl, k⟩ => ?_
  refine ⟨ρ, p, x0, hH, st, sl, (RPost.bind k).mono fun x q sq eq k2 v rv => ?_⟩
  obtain ⟨b, h1, k3⟩ := tr_step sq rv k2
  refine ⟨b, h1, ?_⟩
  cases b with
  | true => exact ⟨ρ, q, x0, rfl, sq, sl.ext eq, k3⟩
  | false => exact RPost.here sq k3 v rv
theorem e_or (ha : PE X a (tV (Gx X cm) W ca)) (hb : PE X (.BoolOp .Or (b :: rest) pos) (tV (Gx X cm) W cb)) : PE X (.BoolOp .Or (a :: b :: rest) pos) (tV (Gx X cm) W (cOr ca cb)) := by
  refine pe_imp (pe_orT ha hb) fun σ H Q ⟨ρ, p, x0, hH, st, sl, k⟩ => ?_
  refine ⟨ρ, p, x0, hH, st, sl, (RPost.bind k).mono fun x q sq eq k2 v rv => ?_⟩
  obtain ⟨b, h1, k3⟩ := tr_step sq rv k2
  refine ⟨b, h1, ?_⟩
  cases b with
  | false => exact ⟨ρ, q, x0, rfl, sq, sl.ext eq, k3⟩
  | true => exact RPost.here sq k3 v rv
theorem e_not (ha : PE X a (tV (Gx X cm) W ca)) : PE X (.UnaryOp .Not a pos) (tV (Gx X cm) W (cNot ca)) := by
  refine pe_imp (pe_notT ha) fun σ H Q ⟨ρ, p, x0, hH, st, sl, k⟩ => ?_
  refine ⟨ρ, p, x0, hH, st, sl, (RPost.bind k).mono fun x q sq eq k2 v rv => ?_⟩
  obtain ⟨b, h1, k3⟩ := tr_step sq rv k2
  exact ⟨b, h1, RPost.here sq k3 _ (.v (.bl _))⟩
theorem e_un {op : UnaryOp} (ho : UnR X (unaryOp op) (rO1 (Gx X cm) o1)) (ha : PE X a (tV (Gx X cm) W ca)) : PE X (.UnaryOp op a pos) (tV (Gx X cm) W (cUn o1 ca)) := by
  refine pe_imp (pe_un ho ha) fun σ H Q ⟨ρ, p, x0, hH, st, sl, k⟩ => ?_
  refine ⟨ρ, p, x0, hH, st, sl, (RPost.bind k).mono fun x q sq eq k2 v rv => ?_⟩
  cases eo : o1 x q.S with
  | none => rw [eo] at k2; exact k2.elim
  | some d =>
    rw [eo] at k2
    exact ⟨q, x, d, rfl, sq, rv, eo, fun u v h1 h2 h3 h4 => k2 u h1 h2 h3 v (.v h4)⟩
theorem e_ifx {tc : CB} (hc : PT X c (tVb (Gx X cm) W tc)) (ha : PE X a (tV (Gx X cm) W ca)) (hb : PE X b (tV (Gx X cm) W cb)) : PE X (.IfExp c a b pos) (tV (Gx X cm) W (cIf tc ca cb)) := by
  refine pe_imp (pe_ifExp hc ha hb) fun σ H Q ⟨ρ, p, x0, hH, st, sl, k⟩ => ?_
  refine ⟨ρ, p, x0, hH, st, sl, (RPost.bind k).mono fun x q sq eq k2 => ?_⟩
  cases x with
  | true => exact ⟨ρ, q, x0, rfl, sq, sl.ext eq, k2⟩
  | false => exact ⟨ρ, q, x0, rfl, sq, sl.ext eq, k2⟩
theorem chain_imp {σ : L2.St} {H : Hp} {Q : VK} (h : tV (Gx X cm) W (cChain o o' ca cb cc) σ H Q) : tChain (rO (Gx X cm) o) (rO (Gx X cm) o') (tV (Gx X cm) W ca) (tV (Gx X cm) W cb) (tV (Gx X cm) W cc) σ H Q := by
  obtain ⟨ρ, p, x0, hH, st, sl, k⟩ := h
  refine ⟨ρ, p, x0, hH, st, sl, (RPost.bind k).mono fun x q sq eq k2 v rv => ?_⟩
  refine ⟨ρ, q, x0, rfl, sq, sl.ext eq, (RPost.bind k2).mono fun y t st2 et k3 w rw' => ?_⟩
  cases eo : o x y t.S with
  | none => rw [eo] at k3; exact k3.elim
  | some d =>
    rw [eo] at k3
    refine ⟨t, x, y, d, rfl, st2, rv.ext et, rw', eo, fun u z h1 h2 h3 h4 => ?_⟩
    have k4 : RPost (Gx X cm) u (WE W σ) ((bRes (.v d) u.S).bind fun k S4 => if k = true then (cc ρ S4).bind fun w S5 => opt (o' y w S5) S5 else .ok (.v (.bl false)) S4) (fun d q => ∀ v, Ru (Gx X cm) q v d → Q v q.H) := by
      rw [h1]
      exact RPost.ext h3 k3
    cases h4 with
    | bl b =>
      refine ⟨b, rfl, ?_⟩
      cases b with
      | false => exact RPost.here (W := WE W σ) (Q := fun d q => ∀ v, Ru (Gx X cm) q v d → Q v q.H) h2 k4 _ (.v (.bl _))
      | true =>
        have k5 : RPost (Gx X cm) u (WE W σ) ((cc ρ u.S).bind fun w S5 => opt (o' y w S5) S5) (fun d q => ∀ v, Ru (Gx X cm) q v d → Q v q.H) := k4
        refine ⟨ρ, u, x0, rfl, h2, (sl.ext eq).ext (et.trans h3), (RPost.bind k5).mono fun z s sz ez k6 w2 rw2 => ?_⟩
        cases eo2 : o' y z s.S with
        | none => rw [eo2] at k6; exact k6.elim
        | some d2 =>
          rw [eo2] at k6
          exact ⟨s, y, z, d2, rfl, sz, (rw'.ext h3).ext ez, rw2, eo2, fun u v h1 h2 h3 h4 => k6 u h1 h2 h3 v (.v h4)⟩
    | _ => exact (show False from k4).elim
theorem e_chain {op op' : CmpOp} (ho : OpR X (compareOp op) (rO (Gx X cm) o)) (ho' : OpR X (compareOp op') (rO (Gx X cm) o')) (ha : PE X a (tV (Gx X cm) W ca)) (hb : PE X b (tV (Gx X cm) W cb)) (hc : PE X c (tV (Gx X cm) W cc))
    (hm : lastMarks [op, op'] [b, c] = false := by with_unfolding_all rfl) : PE X (.Compare a [op, op'] [b, c] pos) (tV (Gx X cm) W (cChain o o' ca cb cc)) := pe_imp (pe_chain ho ho' ha hb hc hm) fun _ _ _ => chain_imp
theorem b_chain {op op' : CmpOp} (ho : OpR X (compareOp op) (rO (Gx X cm) o)) (ho' : OpR X (compareOp op') (rO (Gx X cm) o')) (ha : PE X a (tV (Gx X cm) W ca)) (hb : PE X b (tV (Gx X cm) W cb)) (hc : PE X c (tV (Gx X cm) W cc))
    (hm : lastMarks [op, op'] [b, c] = false := by with_unfolding_all rfl) : PT X (.Compare a [op, op'] [b, c] pos) (tVb (Gx X cm) W (bOf (cChain o o' ca cb cc))) := pt_imp (pt_chain ho ho' ha hb hc hm) fun _ _ _ h => chain_imp (bof_imp h)
theorem a_nil : PA X [] (tVa (Gx X cm) W (evL [])) := by
  refine pa_imp pa_nil fun σ H Q ⟨ρ, p, x0, hH, st, sl, k⟩ => ?_
  have k2 := RPost.here st k [] .nil
  rw [hH] at k2
  exact k2
theorem a_cons {cs : List CE} (ha : PE X e (tV (Gx X cm) W ca)) (hr : PA X es (tVa (Gx X cm) W (evL cs))) (hs : starEach (e :: es) X.env = (false, eval e X.env) :: starEach es X.env := by rfl) : PA X (e :: es) (tVa (Gx X cm) W (evL (ca :: cs))) := by
  refine pa_imp (pa_cons ha hr hs) fun σ H Q ⟨ρ, p, x0, hH, st, sl, k⟩ => ?_
  refine ⟨ρ, p, x0, hH, st, sl, (RPost.bind k).mono fun x q sq eq k2 v rv => ?_⟩
  exact ⟨ρ, q, x0, rfl, sq, sl.ext eq, (RPost.bind k2).mono fun y t st2 et k3 vs rvs => RPost.here st2 k3 _ (.cons (rv.ext et) rvs)⟩
theorem size_ok {n : Nat} (h : n ≤ 100000) : n ≤ sizeLine := Nat.le_trans h (by decide)
theorem disp_step {β : Type} {cs : List CE} {ρ : Env} {p : Pt} {Wk : XK} {f : List U → List Box → Res β} {R : β → Pt → Prop} (hn : cs.length ≤ 100000) (k : RPost (Gx X cm) p Wk ((evL cs ρ p.S).bind f) R) :
    RPost (Gx X cm) p Wk (evL cs ρ p.S) (fun ds q => ds.length ≤ sizeLine ∧ RPost (Gx X cm) q Wk (f ds q.S) R) := by
  have k2 := RPost.bind k
  cases e : evL cs ρ p.S with
  | ok ds S' =>
    rw [e] at k2
    exact fun q h1 h2 h3 => ⟨by rw [evL_length cs ρ p.S ds S' e]; exact size_ok hn, k2 q h1 h2 h3⟩
  | ex x S' =>
    rw [e] at k2
    exact k2
  | no =>
    rw [e] at k2
    exact k2
theorem e_tup {cs : List CE} {j : Nat} (h : PA X es (tVa (Gx X cm) W (evL cs))) (hn : cs.length ≤ 100000 := by decide) : PE X (.Tuple es j pos) (tV (Gx X cm) W (cTup cs)) := by
  refine pe_imp (pe_tup h) fun σ H Q ⟨ρ, p, x0, hH, st, sl, k⟩ => ?_
  refine ⟨ρ, p, x0, hH, st, sl, (disp_step hn k).mono fun us q sq eq ⟨hl, k2⟩ vs rvs => ⟨by rw [rvs.length]; exact hl, fun a ha => ?_⟩⟩
  obtain ⟨s1, e1, n1⟩ := sq.new (.tup vs) ha
  unfold tupR at k2
  cases ep : pures us with
  | none => rw [ep] at k2; exact k2.elim
  | some ds =>
    rw [ep] at k2
    exact k2 (q.new a (.tup vs)) rfl s1 e1 _ (.v (.tup (.inl upd_same) n1 ((pures_rel rvs ep).1.ext e1.toExtS)))
theorem f_lst {cs : List CE} (h : PA X es (tVa (Gx X cm) W (evL cs))) (hn : cs.length ≤ 100000 := by decide) : PE X (.List es pos) (tF (Gx X cm) W (cLst cs)) := by
  refine pe_imp (pe_lst h) fun σ H Q ⟨ρ, p, x0, hH, st, sl, k⟩ => ?_
  refine ⟨ρ, p, x0, hH, st, sl, (disp_step hn k).mono fun us q sq eq ⟨hl, k2⟩ vs rvs => ⟨by rw [rvs.length]; exact hl, fun a ha => ?_⟩⟩
  unfold lstR at k2
  cases ep : pures us with
  | none => rw [ep] at k2; exact k2.elim
  | some ds =>
    rw [ep] at k2
    exact RPost.here sq k2 a vs ha (pures_rel rvs ep).1
theorem e_val {c : CL} (h : PE X e (tF (Gx X cm) W c)) : PE X e (tV (Gx X cm) W (cVal c)) := by
  refine pe_imp h fun σ H Q ⟨ρ, p, x0, hH, st, sl, k⟩ => ?_
  refine ⟨ρ, p, x0, hH, st, sl, (RPost.bind k).mono fun xs q sq eq k2 a vs ha rvs => ?_⟩
  obtain ⟨s1, e1, n1⟩ := sq.new (.lst vs) ha
  exact k2 (q.new a (.lst vs)) rfl s1 e1 _ (.v (.lst upd_same n1 (rvs.ext e1.toExtS)))
theorem e_box {c : CL} (h : PE X e (tF (Gx X cm) W c)) : PE X e (tV (Gx X cm) W (cBox c)) := by
  refine pe_imp h fun σ H Q ⟨ρ, p, x0, hH, st, sl, k⟩ => ?_
  refine ⟨ρ, p, x0, hH, st, sl, (RPost.bind k).mono fun xs q sq eq k2 a vs ha rvs => ?_⟩
  obtain ⟨s1, e1⟩ := sq.more (.lst vs) (.lst xs) ha fun t et ht => ⟨vs, ht, rvs.ext et.toExtS⟩
  refine k2 (q.more a (.lst vs) (.lst xs)) rfl s1 e1 _ (.b ?_ ?_)
  · show q.S.length < (q.S ++ [Box.lst xs]).length
    rw [List.length_append]
    exact Nat.lt_succ_self _
  · show (if q.S.length = q.S.length then a else q.m q.S.length) = a
    rw [if_pos rfl]
end
end Rn
set_option Elab.async false
set_option linter.all false
set_option maxRecDepth 100000
set_option maxHeartbeats 4000000
namespace Rn
open PySem L2

/-! ## statements -/
def SPost (G : Cn) (x0 : Addr → Prop) (p : Pt) (W : WX) (D : Ends) (r : Rs) : Prop := match r with
  | .nx ρ S => ∀ (q : Pt) (σ : L2.St), q.S = S → StR G q → ExtS x0 p q → SlR G x0 q σ ρ → D.nx σ q.H
  | .bk ρ S => ∀ (q : Pt) (σ : L2.St), q.S = S → StR G q → ExtS x0 p q → SlR G x0 q σ ρ → D.bk σ q.H
  | .ct ρ S => ∀ (q : Pt) (σ : L2.St), q.S = S → StR G q → ExtS x0 p q → SlR G x0 q σ ρ → D.ct σ q.H
  | .rt d S => ∀ (q : Pt) (v : V), q.S = S → StR G q → ExtS x0 p q → (∀ a, x0 a → q.x a) → notO d = true → Ru G q v d → D.rt v q.H
  | .ex x ρ S => ∀ (q : Pt) (σ : L2.St) (cls : Value) (dx : Option Addr), q.S = S → StR G q → ExtS x0 p q → SlR G x0 q σ ρ → ERel G q x cls dx → W cls dx σ q.H
  | .no => False
def tS (G : Cn) (W : WX) (c : CS) : TS := fun D σ H => ∃ (ρ : Env) (p : Pt) (x0 : Addr → Prop), p.H = H ∧ StR G p ∧ SlR G x0 p σ ρ ∧ SPost G x0 p W D (c ρ p.S)

def Res.st {α : Type} (r : Res α) (ρ : Env) (f : α → List Box → Rs) : Rs := match r with
  | .ok a S => f a S
  | .ex x S => .ex x ρ S
  | .no => .no
def sNext : CS := fun ρ S => .nx ρ S
def sSeq (a b : CS) : CS := fun ρ S => match a ρ S with
  | .nx ρ' S' => b ρ' S'
  | r => r
def setU (i : Nat) (d : U) (ρ : Env) (S : List Box) : Rs := if i < ρ.length ∧ notO d = true then .nx (ρ.set i (some d)) S else .no
def sSet (i : Nat) (c : CE) : CS := fun ρ S => (c ρ S).st ρ fun d S1 => setU i d ρ S1
def sExpr (c : CE) : CS := fun ρ S => (c ρ S).st ρ fun _ S1 => .nx ρ S1
def retR (d : U) (S : List Box) : Rs := if notO d = true then .rt d S else .no
def sRet (c : CE) : CS := fun ρ S => (c ρ S).st ρ fun d S1 => retR d S1
def sRetN : CS := fun _ S => .rt (.v .non) S
def sIf (t : CB) (a b : CS) : CS := fun ρ S => (t ρ S).st ρ fun k S1 => if k = true then a ρ S1 else b ρ S1
def sBrk : CS := fun ρ S => .bk ρ S
def sCont : CS := fun ρ S => .ct ρ S
/-- a list of the frame's own becomes a value that never changes, a box (no code) -/
def sFrz (i : Nat) : CS := fun ρ S => match ρ[i]? with
  | some (some (.o xs)) => .nx (ρ.set i (some (.v (.lst xs)))) S
  | _ => .no
def sMkB (i : Nat) : CS := fun ρ S => match ρ[i]? with
  | some (some (.o xs)) => .nx (ρ.set i (some (.b S.length))) (S ++ [.lst xs])
  | _ => .no
/-- x = a new list, the frame's own -/
def sOwn (i : Nat) (c : CL) : CS := fun ρ S => (c ρ S).st ρ fun xs S1 => if i < ρ.length then .nx (ρ.set i (some (.o xs))) S1 else .no
abbrev MF := List Box → List D → List U → Option (List D × D)
/-- xs.m(..) of the list in slot i, then what is done with the answer -/
def mutR (i : Nat) (f : MF) (us : List U) (k : D → Env → List Box → Rs) (ρ : Env) (S : List Box) : Rs := match ρ[i]? with
  | some (some (.o xs)) => match f S xs us with
    | some (xs', d) => k d (ρ.set i (some (.o xs'))) S
    | none => .no
  | _ => .no
def sMut (i : Nat) (f : MF) (cs : List CE) (k : D → Env → List Box → Rs) : CS := fun ρ S => match ρ[i]? with
  | some (some (.o _)) => (evL cs ρ S).st ρ fun us S1 => mutR i f us k ρ S1
  | _ => .no
def sAug (i : Nat) (o : OD2) (c : CE) : CS := fun ρ S => match ρ[i]? with
  | some (some x) => (c ρ S).st ρ fun y S1 => (opt (o x y S1) S1).st ρ fun d S2 => setU i d ρ S2
  | _ => .no

inductive Tgt where
  | nm (i : Nat) | tp (ts : List Tgt)
mutual
def Tgt.put : Tgt → D → Env → Option Env
  | .nm i, d, ρ => if i < ρ.length then some (ρ.set i (some (.v d))) else none
  | .tp ts, .tup ds, ρ => putAll ts ds ρ
  | .tp _, _, _ => none
def putAll : List Tgt → List D → Env → Option Env
  | [], [], ρ => some ρ
  | t :: ts, d :: ds, ρ => match t.put d ρ with
    | some ρ' => putAll ts ds ρ'
    | none => none
  | _, _, _ => none
end
mutual
def Tgt.ids : Tgt → List Nat
  | .nm i => [i]
  | .tp ts => idsAll ts
def idsAll : List Tgt → List Nat
  | [] => []
  | t :: ts => t.ids ++ idsAll ts
end
def putR (t : Tgt) (d : D) (ρ : Env) (S : List Box) : Rs := match t.put d ρ with
  | some ρ' => .nx ρ' S
  | none => .no
def asgR (t : Tgt) (u : U) (ρ : Env) (S : List Box) : Rs := match u with
  | .v d => putR t d ρ S
  | _ => .no
def sAsg (t : Tgt) (c : CE) : CS := fun ρ S => (c ρ S).st ρ fun u S1 => asgR t u ρ S1
/-- a, b = a list -/
def asgLR (ts : List Tgt) (u : U) (ρ : Env) (S : List Box) : Rs := match asL u S with
  | some ds => match putAll ts ds ρ with
    | some ρ' => .nx ρ' S
    | none => .no
  | none => .no
def sAsgL (ts : List Tgt) (c : CE) : CS := fun ρ S => (c ρ S).st ρ fun u S1 => asgLR ts u ρ S1

section
variable {G : Cn} {p q : Pt} {W : WX} {Dn Dm : Ends} {r : Rs} {σ : L2.St} {ρ : Env} {x0 : Addr → Prop}
theorem SPost.extS (e : ExtS x0 p q) (h : SPost G x0 p W Dn r) : SPost G x0 q W Dn r := by
  cases r with
  | nx ρ S => exact fun t s h1 h2 h3 h4 => h t s h1 h2 (e.trans h3) h4
  | bk ρ S => exact fun t s h1 h2 h3 h4 => h t s h1 h2 (e.trans h3) h4
  | ct ρ S => exact fun t s h1 h2 h3 h4 => h t s h1 h2 (e.trans h3) h4
  | rt d S => exact fun t s h1 h2 h3 h4 h5 h6 => h t s h1 h2 (e.trans h3) h4 h5 h6
  | ex x ρ S => exact fun t s c d h1 h2 h3 h4 h5 => h t s c d h1 h2 (e.trans h3) h4 h5
  | no => exact h
theorem SPost.st {α : Type} {a : Res α} {f : α → List Box → Rs} (sl : SlR G x0 p σ ρ) (h : SPost G x0 p W Dn (a.st ρ f)) : RPost G p (WE W σ) a (fun x q => SPost G x0 q W Dn (f x q.S)) := by
  cases a with
  | ok x S =>
    intro t h1 h2 h3
    have h' : SPost G x0 p W Dn (f x S) := h
    rw [h1]
    exact h'.extS (sl.toS h3)
  | ex x S =>
    intro t c d h1 h2 h3 h4
    exact h t σ c d h1 h2 (sl.toS h3) (sl.ext h3) h4
  | no => exact h
theorem SPost.next (st : StR G p) (sl : SlR G x0 p σ ρ) (h : SPost G x0 p W Dn (.nx ρ p.S)) : Dn.nx σ p.H := h p σ rfl st (ExtS.refl x0 p) sl
theorem SlR.set {v : V} {d : U} {i : Nat} (sl : SlR G x0 p σ ρ) (r : Ru G p v d) (hi : i < ρ.length) (hd : notO d = true) : SlR G x0 p (σ.set i (some v)) (ρ.set i (some d)) := by
  have back : ∀ (j : Nat) (xs : List D), (ρ.set i (some d))[j]? = some (some (.o xs)) → i ≠ j ∧ ρ[j]? = some (some (.o xs)) := fun j xs hj => by
    by_cases z : i = j
    · subst z
      rw [List.getElem?_set_self hi] at hj
      have z2 := Option.some.inj (Option.some.inj hj)
      subst z2
      cases hd
    · rw [List.getElem?_set_ne z] at hj
      exact ⟨z, hj⟩
  refine ⟨by rw [List.length_set, List.length_set]; exact sl.len, fun j e hj => ?_, fun j k xs ys w hj hk wj wk => ?_, fun j xs a hj ha => ?_, sl.sub⟩
  · by_cases z : i = j
    · subst z
      rw [List.getElem?_set_self hi] at hj
      have z2 := Option.some.inj (Option.some.inj hj)
      subst z2
      exact ⟨v, by rw [List.getElem?_set_self (by rw [← sl.len]; exact hi)], r⟩
    · rw [List.getElem?_set_ne z] at hj
      obtain ⟨w, h1, h2⟩ := sl.rel j e hj
      exact ⟨w, by rw [List.getElem?_set_ne z]; exact h1, h2⟩
  · obtain ⟨n1, h1⟩ := back j xs hj
    obtain ⟨n2, h2⟩ := back k ys hk
    rw [List.getElem?_set_ne n1] at wj
    rw [List.getElem?_set_ne n2] at wk
    exact sl.one j k xs ys w h1 h2 wj wk
  · obtain ⟨n1, h1⟩ := back j xs hj
    rw [List.getElem?_set_ne n1] at ha
    exact sl.out j xs a h1 ha
/-- the list of the frame's own in slot i -/
theorem SlR.own {i : Nat} {xs : List D} (sl : SlR G x0 p σ ρ) (h : ρ[i]? = some (some (.o xs))) : ∃ a vs, σ[i]? = some (some (.ref a)) ∧ p.H a = some (.lst vs) ∧ p.x a ∧ RpL G p vs xs ∧ ¬ x0 a ∧ i < ρ.length := by
  obtain ⟨v, h1, h2⟩ := sl.rel i _ h
  cases h2 with
  | o e1 e2 e3 => exact ⟨_, _, h1, e1, e2, e3, sl.out i xs _ h h1, (List.getElem?_eq_some_iff.mp h).1⟩
/-- it is changed in place -/
theorem own_upd {i : Nat} {xs xs' : List D} {a : Addr} {vs' : List V} (st : StR G p) (sl : SlR G x0 p σ ρ) (h : ρ[i]? = some (some (.o xs))) (ha : σ[i]? = some (some (.ref a))) (r : RpL G p vs' xs') :
    StR G (p.new a (.lst vs')) ∧ ExtS x0 p (p.new a (.lst vs')) ∧ SlR G x0 (p.new a (.lst vs')) σ (ρ.set i (some (.o xs'))) := by
  obtain ⟨a', vs, h1, h2, h3, h4, h5, hi⟩ := sl.own h
  rw [ha] at h1
  cases h1
  have nb : ∀ n b, p.S[n]? = some b → b.live = true → p.m n ≠ a := fun n b hn hl z => st.sep n b hn hl (by rw [z]; exact h3)
  have e : ∀ y0 : Addr → Prop, ¬ y0 a → ExtS y0 p (p.new a (.lst vs')) := fun y0 hy => ⟨fun c u hc nl => (upd_ne fun z => nl (.inl (by rw [z]; exact h3))).trans hc, fun c l => .inl l, fun _ _ => rfl, Nat.le_refl _, fun c hc => upd_ne fun z => hy (by rw [← z]; exact hc)⟩
  have e0 := e (fun _ => False) id
  refine ⟨⟨fun n b hn => ?_, st.inj, st.sep, fun c hc => ?_⟩, e x0 h5, ⟨by rw [List.length_set]; exact sl.len, fun j d hj => ?_, fun j k ys zs w hj hk wj wk => ?_, fun j ys c hj hc => ?_, sl.sub⟩⟩
  · have k := st.ok n b hn
    cases hl : b.live with
    | false => rw [dead_of hl]; trivial
    | true => exact k.ext e0 (upd_ne (nb n b hn hl)).symm
  · by_cases z : c = a
    · exact ⟨_, by rw [z]; exact upd_same⟩
    · obtain ⟨u, hu⟩ := st.res c hc
      exact ⟨u, (upd_ne z).trans hu⟩
  · by_cases z : i = j
    · subst z
      rw [List.getElem?_set_self hi] at hj
      have z2 := Option.some.inj (Option.some.inj hj)
      subst z2
      exact ⟨.ref a, ha, .o upd_same h3 (r.ext e0)⟩
    · rw [List.getElem?_set_ne z] at hj
      obtain ⟨w, w1, w2⟩ := sl.rel j d hj
      refine ⟨w, w1, ?_⟩
      cases w2 with
      | v w2 => exact .v (w2.ext e0)
      | b b1 b2 => exact .b b1 b2
      | @o c ws ds o1 o2 o3 =>
        have ne : c ≠ a := fun y => z (sl.one i j xs ds (.ref a) h hj ha (by rw [← y]; exact w1))
        exact .o ((upd_ne ne).trans o1) o2 (o3.ext e0)
  · have back : ∀ (j : Nat) (ys : List D), (ρ.set i (some (.o xs')))[j]? = some (some (.o ys)) → ∃ zs, ρ[j]? = some (some (.o zs)) := fun j ys hj => by
      by_cases z : i = j
      · subst z; exact ⟨xs, h⟩
      · rw [List.getElem?_set_ne z] at hj; exact ⟨ys, hj⟩
    obtain ⟨ys', hy⟩ := back j ys hj
    obtain ⟨zs', hz⟩ := back k zs hk
    exact sl.one j k ys' zs' w hy hz wj wk
  · by_cases z : i = j
    · subst z
      rw [ha] at hc
      cases hc
      exact h5
    · rw [List.getElem?_set_ne z] at hj
      exact sl.out j ys c hj hc
/-- a new list, the frame's own from here on -/
theorem own_new {i : Nat} {xs : List D} {a : Addr} {vs : List V} (st : StR G p) (sl : SlR G x0 p σ ρ) (hi : i < ρ.length) (ha : p.H a = none) (r : RpL G p vs xs) :
    StR G ⟨upd p.H a (.lst vs), p.S, p.m, fun b => p.x b ∨ b = a⟩ ∧ ExtS x0 p ⟨upd p.H a (.lst vs), p.S, p.m, fun b => p.x b ∨ b = a⟩ ∧ SlR G x0 ⟨upd p.H a (.lst vs), p.S, p.m, fun b => p.x b ∨ b = a⟩ (σ.set i (some (.ref a))) (ρ.set i (some (.o xs))) := by
  have nl := st.fresh ha
  have nb : ∀ n b, p.S[n]? = some b → b.live = true → p.m n ≠ a := fun n b hn hl z => nl (.inr ⟨n, b, hn, hl, z⟩)
  have nx : ∀ b, p.x b → b ≠ a := fun b hb z => nl (.inl (by rw [← z]; exact hb))
  have e : ExtS p.x p ⟨upd p.H a (.lst vs), p.S, p.m, fun b => p.x b ∨ b = a⟩ := by
    refine ⟨fun c u hc _ => (upd_ne (ne_of_none hc ha)).trans hc, fun c l => ?_, fun _ _ => rfl, Nat.le_refl _, fun c hc => upd_ne (nx c hc)⟩
    rcases l with l | l
    · rcases l with l | l
      · exact .inl (.inl l)
      · exact .inr (by rw [l]; exact ha)
    · exact .inl (.inr l)
  have noa : ∀ (j : Nat) (ys : List D) (w : V), ρ[j]? = some (some (.o ys)) → σ[j]? = some (some w) → w ≠ .ref a := fun j ys w hj hw z => by
    obtain ⟨b, ws, h1, h2, h3, _⟩ := sl.own hj
    rw [hw, z] at h1
    cases h1
    exact nx _ h3 rfl
  refine ⟨⟨fun n b hn => ?_, st.inj, fun n b hn hl hx => ?_, fun c hc => ?_⟩, e.mono sl.sub, ⟨by rw [List.length_set, List.length_set]; exact sl.len, fun j d hj => ?_, fun j k ys zs w hj hk wj wk => ?_, fun j ys c hj hc => ?_, fun c hc => .inl (sl.sub c hc)⟩⟩
  · have k := st.ok n b hn
    cases hl : b.live with
    | false => rw [dead_of hl]; trivial
    | true => exact k.ext e (upd_ne (nb n b hn hl)).symm
  · rcases hx with hx | hx
    · exact st.sep n b hn hl hx
    · exact nb n b hn hl hx
  · rcases hc with hc | hc
    · obtain ⟨u, hu⟩ := st.res c hc
      exact ⟨u, (upd_ne (nx c hc)).trans hu⟩
    · exact ⟨_, by rw [hc]; exact upd_same⟩
  · by_cases z : i = j
    · subst z
      rw [List.getElem?_set_self hi] at hj
      have z2 := Option.some.inj (Option.some.inj hj)
      subst z2
      exact ⟨.ref a, by rw [List.getElem?_set_self (by rw [← sl.len]; exact hi)], .o upd_same (.inr rfl) (r.ext e)⟩
    · rw [List.getElem?_set_ne z] at hj
      obtain ⟨w, w1, w2⟩ := sl.rel j d hj
      refine ⟨w, by rw [List.getElem?_set_ne z]; exact w1, ?_⟩
      cases w2 with
      | v w2 => exact .v (w2.ext e)
      | b b1 b2 => exact .b b1 b2
      | o o1 o2 o3 => exact .o ((e.res _ o2).trans o1) (.inl o2) (o3.ext e)
  · by_cases z1 : i = j
    · by_cases z2 : i = k
      · exact z1.symm.trans z2
      · subst z1
        rw [List.getElem?_set_ne z2] at hk wk
        rw [List.getElem?_set_self (by rw [← sl.len]; exact hi)] at wj
        cases wj
        exact absurd rfl (noa k zs _ hk wk)
    · rw [List.getElem?_set_ne z1] at hj wj
      by_cases z2 : i = k
      · subst z2
        rw [List.getElem?_set_self (by rw [← sl.len]; exact hi)] at wk
        cases wk
        exact absurd rfl (noa j ys _ hj wj)
      · rw [List.getElem?_set_ne z2] at hk wk
        exact sl.one j k ys zs w hj hk wj wk
  · by_cases z1 : i = j
    · subst z1
      rw [List.getElem?_set_self (by rw [← sl.len]; exact hi)] at hc
      cases hc
      exact fun hx => nx _ (sl.sub _ hx) rfl
    · rw [List.getElem?_set_ne z1] at hj hc
      exact sl.out j ys c hj hc
/-- it is let go: a value from here on -/
theorem own_frz {i : Nat} {xs : List D} (st : StR G p) (sl : SlR G x0 p σ ρ) (h : ρ[i]? = some (some (.o xs))) :
    ∃ x' : Addr → Prop, StR G ⟨p.H, p.S, p.m, x'⟩ ∧ ExtS x0 p ⟨p.H, p.S, p.m, x'⟩ ∧ SlR G x0 ⟨p.H, p.S, p.m, x'⟩ σ (ρ.set i (some (.v (.lst xs)))) := by
  obtain ⟨a, vs, h1, h2, h3, h4, h5, hi⟩ := sl.own h
  obtain ⟨s1, e1⟩ := st.same (S' := p.S) (x' := fun b => p.x b ∧ b ≠ a) rfl (fun n b hb => .inr hb) fun b hb => hb.1
  have nl : ¬ Live ⟨p.H, p.S, p.m, fun b => p.x b ∧ b ≠ a⟩ a := fun l => by
    rcases l with l | ⟨n, b, hn, hl, z⟩
    · exact l.2 rfl
    · exact st.sep n b hn hl (by rw [show p.m n = a from z]; exact h3)
  refine ⟨fun b => p.x b ∧ b ≠ a, s1, e1 x0, ⟨by rw [List.length_set]; exact sl.len, fun j d hj => ?_, fun j k ys zs w hj hk wj wk => ?_, fun j ys c hj hc => ?_, fun c hc => ⟨sl.sub c hc, fun z => h5 (by rw [← z]; exact hc)⟩⟩⟩
  · by_cases z : i = j
    · subst z
      rw [List.getElem?_set_self hi] at hj
      have z2 := Option.some.inj (Option.some.inj hj)
      subst z2
      exact ⟨.ref a, h1, .v (.lst h2 nl (h4.ext (e1 x0)))⟩
    · rw [List.getElem?_set_ne z] at hj
      obtain ⟨w, w1, w2⟩ := sl.rel j d hj
      refine ⟨w, w1, ?_⟩
      cases w2 with
      | v w2 => exact .v (w2.ext (e1 x0))
      | b b1 b2 => exact .b b1 b2
      | @o c ws ds o1 o2 o3 =>
        have ne : c ≠ a := fun y => z (sl.one i j xs ds (.ref a) h hj h1 (by rw [← y]; exact w1))
        exact .o o1 ⟨o2, ne⟩ (o3.ext (e1 x0))
  · have back : ∀ (j : Nat) (ys : List D), (ρ.set i (some (.v (.lst xs))))[j]? = some (some (.o ys)) → ρ[j]? = some (some (.o ys)) := fun j ys hj => by
      by_cases z : i = j
      · subst z
        rw [List.getElem?_set_self hi] at hj
        cases hj
      · rw [List.getElem?_set_ne z] at hj; exact hj
    exact sl.one j k ys zs w (back j ys hj) (back k zs hk) wj wk
  · by_cases z : i = j
    · subst z
      rw [List.getElem?_set_self hi] at hj
      cases hj
    · rw [List.getElem?_set_ne z] at hj
      exact sl.out j ys c hj hc
/-- it becomes a box -/
theorem own_box {i : Nat} {xs : List D} (st : StR G p) (sl : SlR G x0 p σ ρ) (h : ρ[i]? = some (some (.o xs))) :
    ∃ q : Pt, q.H = p.H ∧ q.S = p.S ++ [.lst xs] ∧ StR G q ∧ ExtS x0 p q ∧ SlR G x0 q σ (ρ.set i (some (.b p.S.length))) := by
  obtain ⟨a, vs, h1, h2, h3, h4, h5, hi⟩ := sl.own h
  have nb : ∀ n b, p.S[n]? = some b → b.live = true → p.m n ≠ a := fun n b hn hl z => st.sep n b hn hl (by rw [z]; exact h3)
  have mlt : ∀ n, n < p.S.length → (if n = p.S.length then a else p.m n) = p.m n := fun n hn => if_neg (Nat.ne_of_lt hn)
  have meq : (if p.S.length = p.S.length then a else p.m p.S.length) = a := if_pos rfl
  have e : ExtS (fun b => p.x b ∧ b ≠ a) p ⟨p.H, p.S ++ [.lst xs], fun n => if n = p.S.length then a else p.m n, fun b => p.x b ∧ b ≠ a⟩ := by
    refine ⟨fun c u hc _ => hc, fun c l => ?_, mlt, by show p.S.length ≤ (p.S ++ [Box.lst xs]).length; rw [List.length_append]; omega, fun _ _ => rfl⟩
    rcases l with l | ⟨n, b, hn, hl, hm⟩
    · exact .inl (.inl l.1)
    · rcases get_more hn with ⟨k1, k2⟩ | ⟨k1, k2⟩
      · exact .inl (.inr ⟨n, b, k2, hl, (mlt n k1).symm.trans hm⟩)
      · subst k1
        have hm : (if p.S.length = p.S.length then a else p.m p.S.length) = c := hm
        rw [meq] at hm
        exact .inl (.inl (by rw [← hm]; exact h3))
  refine ⟨⟨p.H, p.S ++ [.lst xs], fun n => if n = p.S.length then a else p.m n, fun b => p.x b ∧ b ≠ a⟩, rfl, rfl, ⟨fun n b hn => ?_, fun j k b c hj lj hk lk hm => ?_, fun n b hn hl hx => ?_, fun c hc => st.res c hc.1⟩, e.mono fun c hc => ⟨sl.sub c hc, fun z => h5 (by rw [← z]; exact hc)⟩,
    ⟨by rw [List.length_set]; exact sl.len, fun j d hj => ?_, fun j k ys zs w hj hk wj wk => ?_, fun j ys c hj hc => ?_, fun c hc => ⟨sl.sub c hc, fun z => h5 (by rw [← z]; exact hc)⟩⟩⟩
  · rcases get_more hn with ⟨k1, k2⟩ | ⟨k1, k2⟩
    · show BoxOk G _ (if n = p.S.length then a else p.m n) b
      rw [mlt n k1]
      exact (st.ok n b k2).ext e rfl
    · subst k1 k2
      show BoxOk G _ (if p.S.length = p.S.length then a else p.m p.S.length) (.lst xs)
      rw [meq]
      exact ⟨vs, h2, h4.ext e⟩
  · have hm : (if j = p.S.length then a else p.m j) = (if k = p.S.length then a else p.m k) := hm
    rcases get_more hj with ⟨j1, j2⟩ | ⟨j1, j2⟩
    · rw [mlt j j1] at hm
      rcases get_more hk with ⟨k1, k2⟩ | ⟨k1, k2⟩
      · rw [mlt k k1] at hm
        exact st.inj j k b c j2 lj k2 lk hm
      · subst k1
        rw [meq] at hm
        exact absurd hm (nb j b j2 lj)
    · subst j1
      rw [meq] at hm
      rcases get_more hk with ⟨k1, k2⟩ | ⟨k1, k2⟩
      · rw [mlt k k1] at hm
        exact absurd hm.symm (nb k c k2 lk)
      · exact k1.symm
  · have hx : p.x (if n = p.S.length then a else p.m n) ∧ (if n = p.S.length then a else p.m n) ≠ a := hx
    rcases get_more hn with ⟨k1, k2⟩ | ⟨k1, k2⟩
    · rw [mlt n k1] at hx
      exact st.sep n b k2 hl hx.1
    · subst k1
      exact hx.2 meq
  · by_cases z : i = j
    · subst z
      rw [List.getElem?_set_self hi] at hj
      have z2 := Option.some.inj (Option.some.inj hj)
      subst z2
      exact ⟨.ref a, h1, .b (by show p.S.length < (p.S ++ [Box.lst xs]).length; rw [List.length_append]; exact Nat.lt_succ_self _) meq⟩
    · rw [List.getElem?_set_ne z] at hj
      obtain ⟨w, w1, w2⟩ := sl.rel j d hj
      refine ⟨w, w1, ?_⟩
      cases w2 with
      | v w2 => exact .v (w2.ext e)
      | b b1 b2 => exact .b (Nat.lt_of_lt_of_le b1 e.len) ((mlt _ b1).trans b2)
      | @o c ws ds o1 o2 o3 =>
        have ne : c ≠ a := fun y => z (sl.one i j xs ds (.ref a) h hj h1 (by rw [← y]; exact w1))
        exact .o o1 ⟨o2, ne⟩ (o3.ext e)
  · have back : ∀ (j : Nat) (ys : List D), (ρ.set i (some (.b p.S.length)))[j]? = some (some (.o ys)) → ρ[j]? = some (some (.o ys)) := fun j ys hj => by
      by_cases z : i = j
      · subst z
        rw [List.getElem?_set_self hi] at hj
        cases hj
      · rw [List.getElem?_set_ne z] at hj; exact hj
    exact sl.one j k ys zs w (back j ys hj) (back k zs hk) wj wk
  · by_cases z : i = j
    · subst z
      rw [List.getElem?_set_self hi] at hj
      cases hj
    · rw [List.getElem?_set_ne z] at hj
      exact sl.out j ys c hj hc
end

section
variable {X : Cx} {cm : Nat → Addr} {W : WX} {pos pos' : Pos} {a b e : Expr} {st : Stmt} {rest body orelse : List Stmt} {ca cb : CE} {ta : CB} {sa sb : CS} {o : OD2}
theorem ss_nil : PSs X [] (tS (Gx X cm) W sNext) := by
  refine pss_imp pss_nil fun D σ H ⟨ρ, p, x0, hH, s, sl, k⟩ => ?_
  have k2 := SPost.next s sl k
  rw [hH] at k2
  exact k2
theorem ss_cons (h1 : PS X st (tS (Gx X cm) W sa)) (h2 : PSs X rest (tS (Gx X cm) W sb)) : PSs X (st :: rest) (tS (Gx X cm) W (sSeq sa sb)) := by
  refine pss_imp (pss_cons h1 h2) fun D σ H ⟨ρ, p, x0, hH, s, sl, k⟩ => ?_
  refine ⟨ρ, p, x0, hH, s, sl, ?_⟩
  unfold sSeq at k
  cases e : sa ρ p.S with
  | nx ρ1 S1 =>
    rw [e] at k
    intro q σ1 h1 h2 h3 h4
    refine ⟨ρ1, q, x0, rfl, h2, h4, ?_⟩
    rw [h1]
    exact SPost.extS h3 k
  | bk ρ1 S1 => rw [e] at k; exact k
  | ct ρ1 S1 => rw [e] at k; exact k
  | rt ρ1 S1 => rw [e] at k; exact k
  | ex x ρ1 S1 => rw [e] at k; exact k
  | no => rw [e] at k; exact k
theorem ss_one (h1 : PS X st (tS (Gx X cm) W sa)) : PSs X [st] (tS (Gx X cm) W sa) := pss_one h1
/-- a list is let go ahead of the rest -/
theorem ss_frz (i : Nat) (h : PSs X rest (tS (Gx X cm) W sa)) : PSs X rest (tS (Gx X cm) W (sSeq (sFrz i) sa)) := by
  refine pss_imp h fun D σ H ⟨ρ, p, x0, hH, s, sl, k⟩ => ?_
  unfold sSeq sFrz at k
  cases e : ρ[i]? with
  | none => rw [e] at k; exact k.elim
  | some ou =>
    rw [e] at k
    cases ou with
    | none => exact k.elim
    | some u =>
      cases u with
      | v d => exact k.elim
      | b n => exact k.elim
      | o xs =>
        obtain ⟨x', s1, e1, sl1⟩ := own_frz s sl e
        have k : SPost (Gx X cm) x0 p W D (sa (ρ.set i (some (.v (.lst xs)))) p.S) := k
        exact ⟨_, ⟨p.H, p.S, p.m, x'⟩, x0, hH, s1, sl1, k.extS e1⟩
theorem ss_mkb (i : Nat) (h : PSs X rest (tS (Gx X cm) W sa)) : PSs X rest (tS (Gx X cm) W (sSeq (sMkB i) sa)) := by
  refine pss_imp h fun D σ H ⟨ρ, p, x0, hH, s, sl, k⟩ => ?_
  unfold sSeq sMkB at k
  cases e : ρ[i]? with
  | none => rw [e] at k; exact k.elim
  | some ou =>
    rw [e] at k
    cases ou with
    | none => exact k.elim
    | some u =>
      cases u with
      | v d => exact k.elim
      | b n => exact k.elim
      | o xs =>
        obtain ⟨q, h1, h2, s1, e1, sl1⟩ := own_box s sl e
        have k : SPost (Gx X cm) x0 p W D (sa (ρ.set i (some (.b p.S.length))) (p.S ++ [.lst xs])) := k
        rw [← h2] at k
        exact ⟨_, q, x0, h1.trans hH, s1, sl1, k.extS e1⟩
theorem set_step {i : Nat} {d : U} {v : V} {q : Pt} {σ : L2.St} {ρ : Env} {x0 : Addr → Prop} {D : Ends} (sq : StR (Gx X cm) q) (sl : SlR (Gx X cm) x0 q σ ρ) (rv : Ru (Gx X cm) q v d) (k : SPost (Gx X cm) x0 q W D (setU i d ρ q.S)) : D.nx (σ.set i (some v)) q.H := by
  unfold setU at k
  by_cases z : i < ρ.length ∧ notO d = true
  · rw [if_pos z] at k
    exact SPost.next sq (sl.set rv z.1 z.2) k
  · rw [if_neg z] at k
    exact k.elim
theorem s_set {i : Nat} {x : Str} (hN : X.N.Nodup) (hi : X.N[i]? = some x) (hx : Loc X.env.scope x) (he : PE X e (tV (Gx X cm) W ca)) (hs : swapsWith e (some (.Name x pos')) pos.line X.env = pure false := by rfl)
    (hf : X.fn x = true ∨ X.env.scope.names.lookup x = some .local := by first | exact .inl rfl | exact .inr rfl | assumption) : PS X (.Assign [.Name x pos'] e pos) (tS (Gx X cm) W (sSet i ca)) := by
  refine ps_imp (ps_set hN hi hx he hs hf) fun D σ H ⟨ρ, p, x0, hH, s, sl, k⟩ => ?_
  refine ⟨ρ, p, x0, hH, s, sl, (SPost.st sl k).mono fun d q sq eq k2 v rv => ?_⟩
  exact set_step sq (sl.ext eq) rv k2
/-- x = a new list, the frame's own -/
theorem s_own {i : Nat} {x : Str} {c : CL} (hN : X.N.Nodup) (hi : X.N[i]? = some x) (hx : Loc X.env.scope x) (he : PE X e (tF (Gx X cm) W c)) (hs : swapsWith e (some (.Name x pos')) pos.line X.env = pure false := by rfl)
    (hf : X.fn x = true ∨ X.env.scope.names.lookup x = some .local := by first | exact .inl rfl | exact .inr rfl | assumption) : PS X (.Assign [.Name x pos'] e pos) (tS (Gx X cm) W (sOwn i c)) := by
  refine ps_imp (ps_set hN hi hx he hs hf) fun D σ H ⟨ρ, p, x0, hH, s, sl, k⟩ => ?_
  refine ⟨ρ, p, x0, hH, s, sl, (SPost.st sl k).mono fun xs q sq eq k2 a vs ha rvs => ?_⟩
  by_cases z : i < ρ.length
  · rw [if_pos z] at k2
    obtain ⟨s1, e1, sl1⟩ := own_new sq (sl.ext eq) z ha rvs
    exact k2 ⟨upd q.H a (.lst vs), q.S, q.m, fun b => q.x b ∨ b = a⟩ (σ.set i (some (.ref a))) rfl s1 e1 sl1
  · rw [if_neg z] at k2
    exact k2.elim
theorem s_expr (he : PE X e (tV (Gx X cm) W ca)) (hs : swapsWith e none pos.line X.env = pure false := by rfl) : PS X (.Expr e pos) (tS (Gx X cm) W (sExpr ca)) := by
  refine ps_imp (ps_expr he hs) fun D σ H ⟨ρ, p, x0, hH, s, sl, k⟩ => ?_
  exact ⟨ρ, p, x0, hH, s, sl, (SPost.st sl k).mono fun d q sq eq k2 v rv => SPost.next sq (sl.ext eq) k2⟩
theorem s_ret (he : PE X e (tV (Gx X cm) W ca)) : PS X (.Return (some e) pos) (tS (Gx X cm) W (sRet ca)) := by
  refine ps_imp (ps_ret he) fun D σ H ⟨ρ, p, x0, hH, s, sl, k⟩ => ?_
  refine ⟨ρ, p, x0, hH, s, sl, (SPost.st sl k).mono fun d q sq eq k2 v rv => ?_⟩
  unfold retR at k2
  by_cases z : notO d = true
  · rw [if_pos z] at k2
    exact k2 q v rfl sq (ExtS.refl x0 q) (sl.ext eq).sub z rv
  · rw [if_neg z] at k2
    exact k2.elim
theorem s_retN : PS X (.Return none pos) (tS (Gx X cm) W sRetN) := by
  refine ps_imp ps_retN fun D σ H ⟨ρ, p, x0, hH, s, sl, k⟩ => ?_
  have k2 := k p .non rfl s (ExtS.refl x0 p) sl.sub rfl (.v .non)
  rw [hH] at k2
  exact k2
theorem s_pass : PS X (.Pass pos) (tS (Gx X cm) W sNext) := by
  refine ps_imp ps_pass fun D σ H ⟨ρ, p, x0, hH, s, sl, k⟩ => ?_
  have k2 := SPost.next s sl k
  rw [hH] at k2
  exact k2
theorem s_if (hc : PT X a (tVb (Gx X cm) W ta)) (h1 : PSs X body (tS (Gx X cm) W sa)) (h2 : PSs X orelse (tS (Gx X cm) W sb)) : PS X (.If a body orelse pos) (tS (Gx X cm) W (sIf ta sa sb)) := by
  refine ps_imp (ps_if hc h1 h2) fun D σ H ⟨ρ, p, x0, hH, s, sl, k⟩ => ?_
  refine ⟨ρ, p, x0, hH, s, sl, (SPost.st sl k).mono fun x q sq eq k2 => ?_⟩
  cases x with
  | true => exact ⟨ρ, q, x0, rfl, sq, sl.ext eq, k2⟩
  | false => exact ⟨ρ, q, x0, rfl, sq, sl.ext eq, k2⟩
theorem s_brk : PS X (.Break pos) (tS (Gx X cm) W sBrk) := by
  refine ps_imp ps_break fun D σ H ⟨ρ, p, x0, hH, s, sl, k⟩ => ?_
  have k2 := k p σ rfl s (ExtS.refl x0 p) sl
  rw [hH] at k2
  exact k2
theorem s_cont : PS X (.Continue pos) (tS (Gx X cm) W sCont) := by
  refine ps_imp ps_continue fun D σ H ⟨ρ, p, x0, hH, s, sl, k⟩ => ?_
  have k2 := k p σ rfl s (ExtS.refl x0 p) sl
  rw [hH] at k2
  exact k2
theorem s_aug {i : Nat} {x : Str} {op : Operator} (hN : X.N.Nodup) (hi : X.N[i]? = some x) (hx : Loc X.env.scope x) (he : PE X e (tV (Gx X cm) W ca)) (ho : OpR X (inplaceOp op) (rO (Gx X cm) o))
    (hf : X.fn x = true ∨ X.env.scope.names.lookup x = some .local := by first | exact .inl rfl | exact .inr rfl | assumption) : PS X (.AugAssign (.Name x pos') op e pos) (tS (Gx X cm) W (sAug i o ca)) := by
  refine ps_imp (ps_aug (ti := rO (Gx X cm) o) hN hi hx he ho hf) fun D σ H ⟨ρ, p, x0, hH, s, sl, k⟩ => ?_
  unfold sAug at k
  cases e : ρ[i]? with
  | none => rw [e] at k; exact k.elim
  | some ou =>
    rw [e] at k
    cases ou with
    | none => exact k.elim
    | some u =>
      obtain ⟨v, hv, rv⟩ := sl.rel i u e
      refine ⟨v, hv, ρ, p, x0, hH, s, sl, (SPost.st sl k).mono fun y q sq eq k2 w rw' => ?_⟩
      have k3 := SPost.st (sl.ext eq) k2
      cases eo : o u y q.S with
      | none => rw [eo] at k3; exact k3.elim
      | some d =>
        rw [eo] at k3
        refine ⟨q, u, y, d, rfl, sq, rv.ext eq, rw', eo, fun t z h1 h2 h3 h4 => ?_⟩
        have k4 : SPost (Gx X cm) x0 t W D (setU i (.v d) ρ t.S) := k3 t h1 h2 h3
        exact set_step h2 ((sl.ext eq).ext h3) (.v h4) k4
end

/-! ## targets -/
def Agree (ids : List Nat) (σ σ' : L2.St) : Prop := σ'.length = σ.length ∧ ∀ j, j ∉ ids → σ'[j]? = σ[j]?
def tG (G : Cn) (t : Tgt) : TG := fun v σ H Q => ∃ (ρ : Env) (p : Pt) (x0 : Addr → Prop) (d : D) (ρ' : Env), p.H = H ∧ StR G p ∧ SlR G x0 p σ ρ ∧ Rp G p v d ∧ t.put d ρ = some ρ' ∧ ∀ σ', SlR G x0 p σ' ρ' → Agree t.ids σ σ' → Q σ' H
def tGs (G : Cn) (ts : List Tgt) : TGs := fun vs σ H Q => ∃ (ρ : Env) (p : Pt) (x0 : Addr → Prop) (ds : List D) (ρ' : Env), p.H = H ∧ StR G p ∧ SlR G x0 p σ ρ ∧ RpL G p vs ds ∧ putAll ts ds ρ = some ρ' ∧ ∀ σ', SlR G x0 p σ' ρ' → Agree (idsAll ts) σ σ' → Q σ' H
theorem pg_imp {X : Cx} {e : Expr} {t t' : TG} (h : PG X e t) (k : ∀ v σ H Q, t' v σ H Q → t v σ H Q) : PG X e t' := ⟨fun pins s σ H v u Q I r q => h.run pins s σ H v u Q I r (k v σ H Q q)⟩
theorem pgs_imp {X : Cx} {e : List Expr} {t t' : TGs} (h : PGs X e t) (k : ∀ v σ H Q, t' v σ H Q → t v σ H Q) : PGs X e t' := ⟨fun pins s σ H v u Q I r q => h.run pins s σ H v u Q I r (k v σ H Q q)⟩
section
variable {X : Cx} {cm : Nat → Addr} {W : WX} {pos : Pos} {e tg : Expr} {es : List Expr} {ca : CE} {t : Tgt} {ts : List Tgt}
theorem g_nm {i : Nat} (h : PG X e (gName i)) : PG X e (tG (Gx X cm) (.nm i)) := by
  refine pg_imp h fun v σ H Q ⟨ρ, p, x0, d, ρ', hH, st, sl, r, hp, k⟩ => ?_
  unfold Tgt.put at hp
  by_cases z : i < ρ.length
  · rw [if_pos z] at hp
    have z2 := Option.some.inj hp
    subst z2
    refine k _ (sl.set (.v r) z rfl) ⟨List.length_set .., fun j hj => ?_⟩
    have ne : i ≠ j := fun y => hj (by rw [y]; exact List.mem_singleton.mpr rfl)
    rw [List.getElem?_set_ne ne]
  · rw [if_neg z] at hp
    cases hp
theorem gs_nil : PGs X [] (tGs (Gx X cm) []) := by
  refine pgs_imp pgs_nil fun vs σ H Q ⟨ρ, p, x0, ds, ρ', hH, st, sl, r, hp, k⟩ => ?_
  cases r with
  | nil =>
    have z := Option.some.inj hp
    subst z
    exact ⟨rfl, k σ sl ⟨rfl, fun _ _ => rfl⟩⟩
  | cons _ _ => cases hp
theorem gs_cons (h1 : PG X e (tG (Gx X cm) t)) (h2 : PGs X es (tGs (Gx X cm) ts)) (hs : (assignEach (e :: es) X.env).map (·.2) = assign e X.env :: (assignEach es X.env).map (·.2) := by rfl) : PGs X (e :: es) (tGs (Gx X cm) (t :: ts)) := by
  refine pgs_imp (pgs_cons h1 h2 hs) fun vs σ H Q ⟨ρ, p, x0, ds, ρ', hH, st, sl, r, hp, k⟩ => ?_
  cases r with
  | nil => cases hp
  | @cons v d vr dr r1 r2 =>
    refine ⟨v, vr, rfl, ?_⟩
    have hp : (match t.put d ρ with | some ρ' => putAll ts dr ρ' | none => none) = some ρ' := hp
    cases e1 : t.put d ρ with
    | none => rw [e1] at hp; cases hp
    | some ρ1 =>
      rw [e1] at hp
      refine ⟨ρ, p, x0, d, ρ1, hH, st, sl, r1, e1, fun σ1 sl1 g1 => ?_⟩
      refine ⟨ρ1, p, x0, dr, ρ', hH, st, sl1, r2, hp, fun σ2 sl2 g2 => k σ2 sl2 ⟨g2.1.trans g1.1, fun j hj => ?_⟩⟩
      have hj' : j ∉ t.ids ++ idsAll ts := hj
      rw [List.mem_append, not_or] at hj'
      rw [g2.2 j hj'.2, g1.2 j hj'.1]
theorem put_tup_len : ∀ {ts : List Tgt} {ds : List D} {ρ ρ' : Env}, putAll ts ds ρ = some ρ' → ds.length = ts.length
  | [], [], _, _, _ => rfl
  | [], _ :: _, _, _, h => by cases h
  | _ :: _, [], _, _, h => by cases h
  | t :: ts, d :: ds, ρ, ρ', h => by
    have h : (match t.put d ρ with | some ρ' => putAll ts ds ρ' | none => none) = some ρ' := h
    cases e1 : t.put d ρ with
    | none => rw [e1] at h; cases h
    | some ρ1 =>
      rw [e1] at h
      rw [List.length_cons, List.length_cons, put_tup_len h]
theorem g_tp {n : Nat} (hc : X.calm = true) (h : PGs X es (tGs (Gx X cm) ts)) (hl : ts.length = n) (hn : (assignEach es X.env).length = n := by rfl) (hst : (assignEach es X.env).findIdx? (·.1) = none := by rfl) {k : Nat} : PG X (.Tuple es k pos) (tG (Gx X cm) (.tp ts)) := by
  refine pg_imp (pg_tup hc h hn hst) fun v σ H Q ⟨ρ, p, x0, d, ρ', hH, st, sl, r, hp, k⟩ => ?_
  cases d with
  | tup ds =>
    obtain ⟨a, vs, rfl, h1, h2⟩ := rd_T (.v r)
    have hp : putAll ts ds ρ = some ρ' := hp
    rw [hH] at h1
    exact ⟨a, vs, rfl, h1, by rw [h2.length, put_tup_len hp, hl], ρ, p, x0, ds, ρ', hH, st, sl, h2, hp, k⟩
  | _ => cases hp
theorem g_ul {n : Nat} (hc : X.calm = true) (h : PGs X es (tGs (Gx X cm) ts)) (hl : ts.length = n) (hn : (assignEach es X.env).length = n := by rfl) (hst : (assignEach es X.env).findIdx? (·.1) = none := by rfl) {k : Nat} :
    PG X (.Tuple es k pos) (fun v σ H Q => ∃ (ρ : Env) (p : Pt) (x0 : Addr → Prop) (u : U) (ds : List D) (ρ' : Env), p.H = H ∧ StR (Gx X cm) p ∧ SlR (Gx X cm) x0 p σ ρ ∧ Ru (Gx X cm) p v u ∧ asL u p.S = some ds ∧ putAll ts ds ρ = some ρ' ∧ ∀ σ', SlR (Gx X cm) x0 p σ' ρ' → Agree (idsAll ts) σ σ' → Q σ' H) := by
  refine pg_imp (pg_unl hc h hn hst) fun v σ H Q ⟨ρ, p, x0, u, ds, ρ', hH, st, sl, r, hu, hp, k⟩ => ?_
  obtain ⟨a, vs, rfl, h1, h2⟩ := rd_L st r hu
  rw [hH] at h1
  exact ⟨a, vs, rfl, SqL.of h1, by rw [h2.length, put_tup_len hp, hl], ρ, p, x0, ds, ρ', hH, st, sl, h2, hp, k⟩
theorem put_step {d : D} {v : V} {q : Pt} {σ : L2.St} {ρ : Env} {x0 : Addr → Prop} {D : Ends} (sq : StR (Gx X cm) q) (sl : SlR (Gx X cm) x0 q σ ρ) (rv : Rp (Gx X cm) q v d) (k : SPost (Gx X cm) x0 q W D (putR t d ρ q.S)) : tG (Gx X cm) t v σ q.H D.nx := by
  unfold putR at k
  cases ep : t.put d ρ with
  | none => rw [ep] at k; exact k.elim
  | some ρ' =>
    rw [ep] at k
    exact ⟨ρ, q, x0, d, ρ', rfl, sq, sl, rv, ep, fun σ' sl' _ => SPost.next sq sl' k⟩
theorem s_asg (he : PE X e (tV (Gx X cm) W ca)) (hg : PG X tg (tG (Gx X cm) t)) (hs : swapsWithSole [tg] e pos.line X.env = pure false := by rfl) (hw : swappedStores [tg] e X.env = pure none := by rfl)
    (h1 : (assignEach [tg] X.env).map (·.2) = [assign tg X.env] := by rfl) : PS X (.Assign [tg] e pos) (tS (Gx X cm) W (sAsg t ca)) := by
  refine ps_imp (ps_asg he hg hs hw h1) fun D σ H ⟨ρ, p, x0, hH, s, sl, k⟩ => ?_
  refine ⟨ρ, p, x0, hH, s, sl, (SPost.st sl k).mono fun u q sq eq k2 v rv => ?_⟩
  cases rv with
  | b _ _ => exact k2.elim
  | o _ _ _ => exact k2.elim
  | v r => exact put_step sq (sl.ext eq) r k2
/-- a, b = a list -/
theorem s_asgL {j n : Nat} {tp : Pos} (hc : X.calm = true) (he : PE X e (tV (Gx X cm) W ca)) (h : PGs X es (tGs (Gx X cm) ts)) (hl : ts.length = n) (hn : (assignEach es X.env).length = n := by rfl) (hst : (assignEach es X.env).findIdx? (·.1) = none := by rfl)
    (hs : swapsWithSole [.Tuple es j tp] e pos.line X.env = pure false := by rfl) (hw : swappedStores [.Tuple es j tp] e X.env = pure none := by rfl)
    (h1 : (assignEach [.Tuple es j tp] X.env).map (·.2) = [assign (.Tuple es j tp) X.env] := by rfl) : PS X (.Assign [.Tuple es j tp] e pos) (tS (Gx X cm) W (sAsgL ts ca)) := by
  refine ps_imp (ps_asg he (g_ul hc h hl hn hst) hs hw h1) fun D σ H ⟨ρ, p, x0, hH, s, sl, k⟩ => ?_
  refine ⟨ρ, p, x0, hH, s, sl, (SPost.st sl k).mono fun u q sq eq k2 v rv => ?_⟩
  unfold asgLR at k2
  cases eu : asL u q.S with
  | none => rw [eu] at k2; exact k2.elim
  | some ds =>
    rw [eu] at k2
    have k2 : SPost (Gx X cm) x0 q W D (match putAll ts ds ρ with | some ρ' => .nx ρ' q.S | none => .no) := k2
    cases ep : putAll ts ds ρ with
    | none => rw [ep] at k2; exact k2.elim
    | some ρ' =>
      rw [ep] at k2
      exact ⟨ρ, q, x0, u, ds, ρ', rfl, sq, sl.ext eq, rv, eu, ep, fun σ' sl' _ => SPost.next sq sl' k2⟩

/-! ## methods that change a list of the frame's own -/
structure MutOk (X : Cx) (cm : Nat → Addr) (r : V → List V → Hp → VK → Prop) (f : MF) : Prop where
  ok : ∀ (q : Pt) (l : Addr) (vs : List V) (xs : List D) (as : List V) (us : List U) (xs' : List D) (d : D) (Q : VK), StR (Gx X cm) q → q.H l = some (.lst vs) → RpL (Gx X cm) q vs xs → RuL (Gx X cm) q as us → f q.S xs us = some (xs', d) →
    (∀ vs' v, RpL (Gx X cm) q vs' xs' → Rp (Gx X cm) q v d → Q v (upd q.H l (.lst vs'))) → r (.ref l) as q.H Q
theorem mut_imp {i : Nat} {f : MF} {cs : List CE} {kk : D → Env → List Box → Rs} {r : V → List V → Hp → VK → Prop} {σ : L2.St} {H : Hp} {D : Ends} {Qk : L2.St → VK} (M : MutOk X cm r f)
    (hk : ∀ (d : Rn.D) (v : V) (q : Pt) (ρ : Env) (x0 : Addr → Prop), StR (Gx X cm) q → SlR (Gx X cm) x0 q σ ρ → Rp (Gx X cm) q v d → SPost (Gx X cm) x0 q W D (kk d ρ q.S) → Qk σ v q.H) (h : tS (Gx X cm) W (sMut i f cs kk) D σ H) :
    (tBM X.K "list" r (tVar i) (tVa (Gx X cm) W (evL cs))) σ H (Qk σ) ∧ (cs = [] → (tBM0 X.K "list" r (tVar i)) σ H (Qk σ)) := by
  obtain ⟨ρ, p, x0, hH, s, sl, k⟩ := h
  unfold sMut at k
  cases e : ρ[i]? with
  | none => rw [e] at k; exact k.elim
  | some ou =>
    rw [e] at k
    cases ou with
    | none => exact k.elim
    | some u =>
      cases u with
      | v d => exact k.elim
      | b n => exact k.elim
      | o xs =>
        obtain ⟨a, vs, h1, h2, h3, h4, h5, hi⟩ := sl.own e
        have k : SPost (Gx X cm) x0 p W D ((evL cs ρ p.S).st ρ fun us S1 => mutR i f us kk ρ S1) := k
        have ty : tyV X.K "list" (.ref a) H := .inl ⟨rfl, vs, SqL.of (by rw [← hH]; exact h2)⟩
        have fin : ∀ (q : Pt) (us : List U) (as : List V), StR (Gx X cm) q → Ext p q → RuL (Gx X cm) q as us → SPost (Gx X cm) x0 q W D (mutR i f us kk ρ q.S) → r (.ref a) as q.H (Qk σ) := fun q us as sq eq ras k2 => by
          unfold mutR at k2
          rw [e] at k2
          have k2 : SPost (Gx X cm) x0 q W D (match f q.S xs us with | some (xs', d) => kk d (ρ.set i (some (.o xs'))) q.S | none => .no) := k2
          cases ef : f q.S xs us with
          | none => rw [ef] at k2; exact k2.elim
          | some xd =>
            obtain ⟨xs', d⟩ := xd
            rw [ef] at k2
            have h2q : q.H a = some (.lst vs) := (eq.res a h3).trans h2
            refine M.ok q a vs xs as us xs' d _ sq h2q (h4.ext eq.toExtS) ras ef fun vs' v rvs rv => ?_
            obtain ⟨s1, e1, sl1⟩ := own_upd sq (sl.ext eq) e h1 rvs
            exact hk d v (q.new a (.lst vs')) _ x0 s1 sl1 (rv.ext e1) (SPost.extS e1 k2)
        refine ⟨⟨.ref a, h1, ty, ρ, p, x0, hH, s, sl, (SPost.st sl k).mono fun us q sq eq k2 as ras => fin q us as sq eq ras k2⟩, fun hc => ⟨.ref a, h1, ty, ?_⟩⟩
        subst hc
        have k2 := SPost.st sl k
        have k3 := fin p [] [] s (Ext.refl p) .nil (RPost.here s k2)
        rw [hH] at k3
        exact k3
section
variable {o : Expr} {r : V → List V → Hp → VK → Prop} {f : MF} {cs : List CE} {i : Nat}
theorem s_mutE (M : MutOk X cm r f) (h : PE X e (tBM X.K "list" r (tVar i) (tVa (Gx X cm) W (evL cs)))) (hs : swapsWith e none pos.line X.env = pure false := by rfl) : PS X (.Expr e pos) (tS (Gx X cm) W (sMut i f cs fun _ ρ S => .nx ρ S)) := by
  refine ps_imp (ps_expr h hs) fun D σ H hh => ?_
  exact (mut_imp (Qk := fun σ _ H1 => D.nx σ H1) M (fun d v q ρ x0 sq sl rv k => SPost.next sq sl k) hh).1
theorem s_mutE0 (M : MutOk X cm r f) (h : PE X e (tBM0 X.K "list" r (tVar i))) (hs : swapsWith e none pos.line X.env = pure false := by rfl) : PS X (.Expr e pos) (tS (Gx X cm) W (sMut i f [] fun _ ρ S => .nx ρ S)) := by
  refine ps_imp (ps_expr h hs) fun D σ H hh => ?_
  exact (mut_imp (Qk := fun σ _ H1 => D.nx σ H1) M (fun d v q ρ x0 sq sl rv k => SPost.next sq sl k) hh).2 rfl
theorem s_mutA (M : MutOk X cm r f) (h : PE X e (tBM X.K "list" r (tVar i) (tVa (Gx X cm) W (evL cs)))) (hg : PG X tg (tG (Gx X cm) t)) (hs : swapsWithSole [tg] e pos.line X.env = pure false := by rfl) (hw : swappedStores [tg] e X.env = pure none := by rfl)
    (h1 : (assignEach [tg] X.env).map (·.2) = [assign tg X.env] := by rfl) : PS X (.Assign [tg] e pos) (tS (Gx X cm) W (sMut i f cs (putR t))) := by
  refine ps_imp (ps_asg h hg hs hw h1) fun D σ H hh => ?_
  exact (mut_imp (Qk := fun σ v H1 => tG (Gx X cm) t v σ H1 D.nx) M (fun d v q ρ x0 sq sl rv k => put_step sq sl rv k) hh).1
theorem s_mutA0 (M : MutOk X cm r f) (h : PE X e (tBM0 X.K "list" r (tVar i))) (hg : PG X tg (tG (Gx X cm) t)) (hs : swapsWithSole [tg] e pos.line X.env = pure false := by rfl) (hw : swappedStores [tg] e X.env = pure none := by rfl)
    (h1 : (assignEach [tg] X.env).map (·.2) = [assign tg X.env] := by rfl) : PS X (.Assign [tg] e pos) (tS (Gx X cm) W (sMut i f [] (putR t))) := by
  refine ps_imp (ps_asg h hg hs hw h1) fun D σ H hh => ?_
  exact (mut_imp (Qk := fun σ v H1 => tG (Gx X cm) t v σ H1 D.nx) M (fun d v q ρ x0 sq sl rv k => put_step sq sl rv k) hh).2 rfl
end
def mApp : MF := fun _ xs us => match us with
  | [.v d] => if xs.length < sizeLine then some (xs ++ [d], .non) else none
  | _ => none
def mExt : MF := fun S xs us => match us with
  | [u] => match asL u S with
    | some ys => if xs.length + ys.length ≤ sizeLine then some (xs ++ ys, .non) else none
    | none => none
  | _ => none
def mRev : MF := fun _ xs us => match us with
  | [] => some (xs.reverse, .non)
  | _ => none
def mPop : MF := fun _ xs us => match us with
  | [] => (xs[xs.length - 1]?).map fun d => (xs.dropLast, d)
  | _ => none
theorem RpL.dropLast {G : Cn} {p : Pt} {vs : List V} {ds : List D} (h : RpL G p vs ds) : RpL G p vs.dropLast ds.dropLast := by
  rw [List.dropLast_eq_take, List.dropLast_eq_take, h.length]
  exact h.take _
theorem m_app : MutOk X cm rAppend mApp where
  ok := fun q l vs xs as us xs' d Q sq hl rv ra hf k => by
    unfold mApp at hf
    split at hf
    · split at hf
      · rename_i d' hz
        have hf := Option.some.inj hf
        cases hf
        cases ra with
        | cons r1 r2 =>
          cases r2
          cases r1 with
          | v r1 => exact ⟨l, vs, _, rfl, rfl, hl, by rw [rv.length]; exact hz, k _ _ (rv.app (.cons r1 .nil)) .non⟩
      · cases hf
    · cases hf
theorem m_ext : MutOk X cm rExtend mExt where
  ok := fun q l vs xs as us xs' d Q sq hl rv ra hf k => by
    unfold mExt at hf
    split at hf
    · rename_i u
      split at hf
      · rename_i ys hu
        split at hf
        · rename_i hz
          have hf := Option.some.inj hf
          cases hf
          cases ra with
          | cons r1 r2 =>
            cases r2
            obtain ⟨b, ws, rfl, h1, h2⟩ := rd_L sq r1 hu
            exact ⟨l, b, vs, ws, rfl, rfl, hl, h1, by rw [rv.length, h2.length]; exact hz, k _ _ (rv.app h2) .non⟩
        · cases hf
      · cases hf
    · cases hf
theorem m_rev : MutOk X cm rReverse mRev where
  ok := fun q l vs xs as us xs' d Q sq hl rv ra hf k => by
    unfold mRev at hf
    split at hf
    · have hf := Option.some.inj hf
      cases hf
      cases ra
      exact ⟨l, vs, rfl, rfl, hl, k _ _ rv.rev .non⟩
    · cases hf
theorem m_pop : MutOk X cm rPop mPop where
  ok := fun q l vs xs as us xs' d Q sq hl rv ra hf k => by
    unfold mPop at hf
    split at hf
    · cases e : xs[xs.length - 1]? with
      | none => rw [e] at hf; cases hf
      | some z =>
        rw [e] at hf
        have hf := Option.some.inj hf
        cases hf
        cases ra
        obtain ⟨y, h1, h2⟩ := rv.get e
        exact ⟨l, vs, y, rfl, rfl, hl, by rw [rv.length]; exact h1, k _ _ rv.dropLast h2⟩
    · cases hf
end
end Rn
set_option Elab.async false
set_option linter.all false
set_option maxRecDepth 100000
set_option maxHeartbeats 4000000
namespace Rn
open PySem L2

/-! ## what is walked -/
abbrev CI := Env → List Box → Res (List D)
abbrev No : Addr → Prop := fun _ => False
/-- the iterator gives the items ds, whatever is done meanwhile -/
structure ItOk (G : Cn) (p : Pt) (J : It) (ds : List D) : Prop where
  go : ∀ (q : Pt) (i : Nat), StR G q → ExtS No p q → i < ds.length → J.go i q.H
  yld : ∀ (q : Pt) (i : Nat) (x : V) (H' : Hp) (d : D), StR G q → ExtS No p q → ds[i]? = some d → J.yld i q.H x H' → ∃ r : Pt, r.H = H' ∧ r.S = q.S ∧ StR G r ∧ Ext q r ∧ Rp G r x d
  stop : ∀ (q : Pt), StR G q → ExtS No p q → J.stop ds.length q.H
def tI (G : Cn) (W : WX) (c : CI) : TI := fun σ H R => ∃ (ρ : Env) (p : Pt) (x0 : Addr → Prop), p.H = H ∧ StR G p ∧ SlR G x0 p σ ρ ∧ RPost G p (WE W σ) (c ρ p.S) (fun ds q => ∀ J, ItOk G q J ds → R J q.H)
theorem pi_imp {X : Cx} {tg iter : Expr} {t t' : TI} (h : PI X tg iter t) (k : ∀ σ H R, t' σ H R → t σ H R) : PI X tg iter t' := ⟨fun pins s σ H R I q => h.run pins s σ H R I (k σ H R q)⟩

def optI (o : Option (List D)) (S : List Box) : Res (List D) := match o with
  | some ds => .ok ds S
  | none => .no
/-- a list that never changes -/
def itL (u : U) : Option (List D) := match u with
  | .v (.lst ds) => some ds
  | .v (.con ds) => some ds
  | _ => none
def itT (u : U) : Option (List D) := match u with
  | .v (.tup ds) => some ds
  | _ => none
def itS (u : U) : Option (List D) := match u with
  | .v (.str z) => some (z.cps.toList.map fun c => .str ⟨#[c]⟩)
  | _ => none
def cIt (f : U → Option (List D)) (c : CE) : CI := fun ρ S => (c ρ S).bind fun u S1 => optI (f u) S1
def rngD (lo : Int) (n : Nat) : List D := (List.range n).map fun k => .int (lo + (k : Nat))
def itR1 (us : List U) (S : List Box) : Res (List D) := match us with
  | [.v (.int j)] => if -(2 ^ 62) ≤ j ∧ j < 2 ^ 62 then .ok (rngD 0 j.toNat) S else .no
  | _ => .no
def itR2 (us : List U) (S : List Box) : Res (List D) := match us with
  | [.v (.int i), .v (.int j)] => if -(2 ^ 62) ≤ i ∧ i < 2 ^ 62 ∧ -(2 ^ 62) ≤ j ∧ j < 2 ^ 62 then .ok (rngD i (j - i).toNat) S else .no
  | _ => .no
def cRng1 (cs : List CE) : CI := fun ρ S => (evL cs ρ S).bind itR1
def cRng2 (cs : List CE) : CI := fun ρ S => (evL cs ρ S).bind itR2

theorem get_rng {lo : Int} {n i : Nat} {d : D} (h : (rngD lo n)[i]? = some d) : i < n ∧ d = .int (lo + (i : Nat)) := by
  unfold rngD at h
  rw [List.getElem?_map] at h
  by_cases z : i < n
  · rw [List.getElem?_eq_getElem (by rw [List.length_range]; exact z), List.getElem_range] at h
    exact ⟨z, (Option.some.inj h).symm⟩
  · rw [List.getElem?_eq_none (by rw [List.length_range]; omega)] at h
    cases h
theorem len_rng {lo : Int} {n : Nat} : (rngD lo n).length = n := by
  unfold rngD
  rw [List.length_map, List.length_range]

section
variable {G : Cn} {p q : Pt}
theorem ItOk.list {a : Addr} {vs : List V} {ds : List D} (hp : ∀ q, ExtS No p q → SqL G.K q.H a vs) (r : RpL G p vs ds) : ItOk G p (Itl G.K a) ds where
  go := fun q i sq e hi => by
    obtain ⟨v, hv, _⟩ := r.get (List.getElem?_eq_getElem hi)
    exact ⟨vs, v, hp q e, hv⟩
  yld := fun q i x H' d sq e hd ⟨h1, h2⟩ => by
    subst h1
    obtain ⟨v, hv, rv⟩ := r.get hd
    have h3 := h2 vs (hp q e)
    rw [hv] at h3
    cases h3
    exact ⟨q, rfl, rfl, sq, Ext.refl q, rv.ext e⟩
  stop := fun q sq e => ⟨vs, hp q e, Nat.le_of_eq r.length⟩
theorem ItOk.tuple {a : Addr} {vs : List V} {ds : List D} (hp : ∀ q, ExtS No p q → SqT G.K q.H a vs) (r : RpL G p vs ds) : ItOk G p (Itt G.K a) ds where
  go := fun q i sq e hi => by
    obtain ⟨v, hv, _⟩ := r.get (List.getElem?_eq_getElem hi)
    exact ⟨vs, v, hp q e, hv⟩
  yld := fun q i x H' d sq e hd ⟨h1, h2⟩ => by
    subst h1
    obtain ⟨v, hv, rv⟩ := r.get hd
    have h3 := h2 vs (hp q e)
    rw [hv] at h3
    cases h3
    exact ⟨q, rfl, rfl, sq, Ext.refl q, rv.ext e⟩
  stop := fun q sq e => ⟨vs, hp q e, Nat.le_of_eq r.length⟩
theorem ItOk.range {lo : Int} {n : Nat} : ItOk G p (Itr lo n) (rngD lo n) where
  go := fun q i sq e hi => by
    rw [len_rng] at hi
    exact hi
  yld := fun q i x H' d sq e hd ⟨h1, h2⟩ => by
    subst h1
    obtain ⟨_, hd2⟩ := get_rng hd
    subst hd2
    subst h2
    exact ⟨q, rfl, rfl, sq, Ext.refl q, .int _⟩
  stop := fun q sq e => by
    rw [len_rng]
    exact Nat.le_refl n
end
section
variable {X : Cx} {cm : Nat → Addr} {W : WX} {pos : Pos} {tg l a b : Expr} {es : List Expr} {ca : CE} {cs : List CE}
theorem i_list (hl : PE X l (tV (Gx X cm) W ca)) : PI X tg l (tI (Gx X cm) W (cIt itL ca)) := by
  refine pi_imp (pi_list hl) fun σ H R ⟨ρ, p, x0, hH, st, sl, k⟩ => ?_
  refine ⟨ρ, p, x0, hH, st, sl, (RPost.bind k).mono fun u q sq eq k2 v rv => ?_⟩
  have fin : ∀ {a : Addr} {vs : List V} {ds : List D}, (∀ t, ExtS No q t → SqL X.K t.H a vs) → RpL (Gx X cm) q vs ds → RPost (Gx X cm) q (WE W σ) (.ok ds q.S) (fun ds q => ∀ J, ItOk (Gx X cm) q J ds → R J q.H) → ∃ b, V.ref a = .ref b ∧ (∃ xs, SqL X.K q.H b xs) ∧ R (Itl X.K b) q.H := fun {a vs ds} h r k3 =>
    ⟨a, rfl, ⟨vs, h q (ExtS.refl No q)⟩, RPost.here sq k3 _ (ItOk.list h r)⟩
  cases rv with
  | b _ _ => exact k2.elim
  | o _ _ _ => exact k2.elim
  | v r =>
    cases r with
    | lst h n r => exact fin (fun t e => SqL.of (e.keep _ _ h n)) r k2
    | con h n r =>
      obtain ⟨o, h⟩ := h
      exact fin (fun t e => .inl (.inr ⟨o, e.keep _ _ h n⟩)) r k2
    | conK h r => exact fin (fun t e => .inr h) r k2
    | _ => exact k2.elim
theorem i_tup (hl : PE X l (tV (Gx X cm) W ca)) : PI X tg l (tI (Gx X cm) W (cIt itT ca)) := by
  refine pi_imp (pi_tup hl) fun σ H R ⟨ρ, p, x0, hH, st, sl, k⟩ => ?_
  refine ⟨ρ, p, x0, hH, st, sl, (RPost.bind k).mono fun u q sq eq k2 v rv => ?_⟩
  have fin : ∀ {a : Addr} {vs : List V} {ds : List D}, (∀ t, ExtS No q t → SqT X.K t.H a vs) → RpL (Gx X cm) q vs ds → RPost (Gx X cm) q (WE W σ) (.ok ds q.S) (fun ds q => ∀ J, ItOk (Gx X cm) q J ds → R J q.H) → ∃ b, V.ref a = .ref b ∧ (∃ xs, SqT X.K q.H b xs) ∧ R (Itt X.K b) q.H := fun {a vs ds} h r k3 =>
    ⟨a, rfl, ⟨vs, h q (ExtS.refl No q)⟩, RPost.here sq k3 _ (ItOk.tuple h r)⟩
  cases rv with
  | b _ _ => exact k2.elim
  | o _ _ _ => exact k2.elim
  | v r =>
    cases r with
    | tup h n r => exact fin (fun t e => .inl (e.rd h n)) r k2
    | tupK h r => exact fin (fun t e => .inr h) r k2
    | _ => exact k2.elim
theorem i_rng1 {p : Pos} (hg : Gl X "range") (hm : X.mg "range" = none) (ha : PA X [a] (tVa (Gx X cm) W (evL cs))) (hs : starEach [a] X.env = [(false, eval a X.env)] := by rfl) : PI X tg (.Call (.Name "range" p) [a] [] pos) (tI (Gx X cm) W (cRng1 cs)) := by
  refine pi_imp (pi_range1 hg hm ha hs) fun σ H R ⟨ρ, p, x0, hH, st, sl, k⟩ => ?_
  refine ⟨ρ, p, x0, hH, st, sl, (RPost.bind k).mono fun us q sq eq k2 vs rvs => ?_⟩
  unfold itR1 at k2
  split at k2
  · rename_i j
    split at k2
    · rename_i hj
      cases rvs with
      | cons r rr =>
        cases rr
        cases r with
        | v r =>
          cases r
          exact ⟨j, rfl, hj.1, hj.2, RPost.here sq k2 _ ItOk.range⟩
    · exact k2.elim
  · exact k2.elim
theorem i_rng2 {p : Pos} (hg : Gl X "range") (hm : X.mg "range" = none) (ha : PA X [a, b] (tVa (Gx X cm) W (evL cs))) (hs : starEach [a, b] X.env = [(false, eval a X.env), (false, eval b X.env)] := by rfl) (hs2 : starEach [b] X.env = [(false, eval b X.env)] := by rfl) :
    PI X tg (.Call (.Name "range" p) [a, b] [] pos) (tI (Gx X cm) W (cRng2 cs)) := by
  refine pi_imp (pi_range2 hg hm ha hs hs2) fun σ H R ⟨ρ, p, x0, hH, st, sl, k⟩ => ?_
  refine ⟨ρ, p, x0, hH, st, sl, (RPost.bind k).mono fun us q sq eq k2 vs rvs => ?_⟩
  unfold itR2 at k2
  split at k2
  · rename_i i j
    split at k2
    · rename_i hj
      cases rvs with
      | cons r rr =>
        cases rr with
        | cons r' rr' =>
          cases rr'
          cases r with
          | v r =>
            cases r
            cases r' with
            | v r' =>
              cases r'
              exact ⟨i, j, rfl, hj, RPost.here sq k2 _ ItOk.range⟩
    · exact k2.elim
  · exact k2.elim
end

/-! ## for, while -/
def forF (t : Tgt) (body : CS) : List D → CS
  | [] => fun ρ S => .nx ρ S
  | d :: ds => fun ρ S => match t.put d ρ with
    | none => .no
    | some ρ1 => match body ρ1 S with
      | .nx ρ2 S2 => forF t body ds ρ2 S2
      | .ct ρ2 S2 => forF t body ds ρ2 S2
      | .bk ρ2 S2 => .nx ρ2 S2
      | r => r
def sFor (src : CI) (t : Tgt) (body : CS) : CS := fun ρ S => (src ρ S).st ρ fun ds S1 => forF t body ds ρ S1
def whF (t : CB) (body : CS) : Nat → CS
  | 0 => fun _ _ => .no
  | n + 1 => fun ρ S => (t ρ S).st ρ fun k S1 => if k = true then (match body ρ S1 with
      | .nx ρ2 S2 => whF t body n ρ2 S2
      | .ct ρ2 S2 => whF t body n ρ2 S2
      | .bk ρ2 S2 => .nx ρ2 S2
      | r => r) else .nx ρ S1
section
variable {X : Cx} {cm : Nat → Addr} {W : WX} {pos : Pos} {tg iter c : Expr} {body : List Stmt} {ci : CI} {t : Tgt} {sb : CS} {tb : CB}
theorem s_for (hp : PassesOwn (model X.prog X.w) X.A X.env X.xe) (hc : X.calm = true) (hi : PI X tg iter (tI (Gx X cm) W ci)) (hg : PG X tg (tG (Gx X cm) t)) (hb : PSs X body (tS (Gx X cm) W sb))
    (hs : ∀ x, foldedSetIterable iter X.env x = pure x := by intro _; rfl) : PS X (.For tg iter body [] pos) (tS (Gx X cm) W (sFor ci t sb)) := by
  refine ps_imp (ps_for hp hc hi hg hb hs) fun D σ H ⟨ρ, p, x0, hH, s, sl, k⟩ => ?_
  refine ⟨ρ, p, x0, hH, s, sl, (SPost.st sl k).mono fun ds q0 sq0 eq0 k2 J hJ => ?_⟩
  refine ⟨fun i m σ H => ∃ (ρ : Env) (q : Pt), q.H = H ∧ StR (Gx X cm) q ∧ ExtS x0 q0 q ∧ SlR (Gx X cm) x0 q σ ρ ∧ i + m = ds.length ∧ SPost (Gx X cm) x0 q W D (forF t sb (ds.drop i) ρ q.S),
    ⟨ds.length, ρ, q0, rfl, sq0, ExtS.refl x0 q0, sl.ext eq0, Nat.zero_add _, k2⟩, ?_⟩
  rintro i m σ H ⟨ρ, q, rfl, sq, eq, sl, hm, k⟩
  have eqN : ExtS No q0 q := eq.mono fun _ h => h.elim
  by_cases hi : i < ds.length
  · have hd : ds[i]? = some ds[i] := List.getElem?_eq_getElem hi
    rw [List.drop_eq_getElem_cons hi] at k
    have k : SPost (Gx X cm) x0 q W D (match t.put ds[i] ρ with
      | none => .no
      | some ρ1 => match sb ρ1 q.S with
        | .nx ρ2 S2 => forF t sb (ds.drop (i + 1)) ρ2 S2
        | .ct ρ2 S2 => forF t sb (ds.drop (i + 1)) ρ2 S2
        | .bk ρ2 S2 => .nx ρ2 S2
        | r => r) := k
    refine .inr ⟨hJ.go q i sq eqN hi, fun σ H => ∃ (ρ : Env) (r : Pt), r.H = H ∧ StR (Gx X cm) r ∧ ExtS x0 q0 r ∧ SlR (Gx X cm) x0 r σ ρ ∧ i + 1 + (m - 1) = ds.length ∧ SPost (Gx X cm) x0 r W D (forF t sb (ds.drop (i + 1)) ρ r.S),
      fun σ' H' h => ⟨m - 1, by omega, h⟩, fun x H' hy => ?_⟩
    obtain ⟨r, rfl, hS, sr, er, rx⟩ := hJ.yld q i x H' ds[i] sq eqN hd hy
    have erS := sl.toS er
    cases ep : t.put ds[i] ρ with
    | none => rw [ep] at k; exact k.elim
    | some ρ1 =>
      rw [ep] at k
      refine ⟨ρ, r, x0, ds[i], ρ1, rfl, sr, sl.ext er, rx, ep, fun σ1 sl1 _ => ?_⟩
      refine ⟨ρ1, r, x0, rfl, sr, sl1, ?_⟩
      have k : SPost (Gx X cm) x0 r W D (match sb ρ1 r.S with
        | .nx ρ2 S2 => forF t sb (ds.drop (i + 1)) ρ2 S2
        | .ct ρ2 S2 => forF t sb (ds.drop (i + 1)) ρ2 S2
        | .bk ρ2 S2 => .nx ρ2 S2
        | r => r) := by
        rw [hS]
        exact SPost.extS erS k
      cases eb : sb ρ1 r.S with
      | nx ρ2 S2 =>
        rw [eb] at k
        intro u σ2 h1 h2 h3 h4
        refine ⟨ρ2, u, rfl, h2, (eq.trans erS).trans h3, h4, by omega, ?_⟩
        rw [h1]
        exact SPost.extS h3 k
      | ct ρ2 S2 =>
        rw [eb] at k
        intro u σ2 h1 h2 h3 h4
        refine ⟨ρ2, u, rfl, h2, (eq.trans erS).trans h3, h4, by omega, ?_⟩
        rw [h1]
        exact SPost.extS h3 k
      | bk ρ2 S2 => rw [eb] at k; exact k
      | rt d S2 => rw [eb] at k; exact k
      | ex x ρ2 S2 => rw [eb] at k; exact k
      | no => rw [eb] at k; exact k.elim
  · have z : i = ds.length := by omega
    subst z
    rw [List.drop_eq_nil_of_le (Nat.le_refl _)] at k
    exact .inl ⟨hJ.stop q sq eqN, SPost.next sq sl k⟩
theorem s_while (n : Nat) (hp : PassesOwn (model X.prog X.w) X.A X.env X.xe) (hc : PT X c (tVb (Gx X cm) W tb)) (hb : PSs X body (tS (Gx X cm) W sb)) : PS X (.While c body [] pos) (tS (Gx X cm) W (whF tb sb n)) := by
  refine ps_imp (ps_while hp hc hb) fun D σ H ⟨ρ, p, x0, hH, s, sl, k⟩ => ?_
  refine ⟨fun m σ H => ∃ (ρ : Env) (q : Pt), q.H = H ∧ StR (Gx X cm) q ∧ SlR (Gx X cm) x0 q σ ρ ∧ SPost (Gx X cm) x0 q W D (whF tb sb m ρ q.S), ⟨n, ρ, p, hH, s, sl, k⟩, ?_⟩
  rintro m σ H ⟨ρ, q, rfl, sq, sl, k⟩
  cases m with
  | zero => exact k.elim
  | succ m =>
    refine ⟨ρ, q, x0, rfl, sq, sl, (SPost.st sl k).mono fun b r sr er k2 => ?_⟩
    cases b with
    | false => exact SPost.next sr (sl.ext er) k2
    | true =>
      rw [if_pos rfl]
      have k2 : SPost (Gx X cm) x0 r W D (match sb ρ r.S with
        | .nx ρ2 S2 => whF tb sb m ρ2 S2
        | .ct ρ2 S2 => whF tb sb m ρ2 S2
        | .bk ρ2 S2 => .nx ρ2 S2
        | r => r) := k2
      refine ⟨fun σ H => ∃ (ρ : Env) (u : Pt), u.H = H ∧ StR (Gx X cm) u ∧ SlR (Gx X cm) x0 u σ ρ ∧ SPost (Gx X cm) x0 u W D (whF tb sb m ρ u.S), fun σ' H' h => ⟨m, Nat.lt_succ_self m, h⟩, ?_⟩
      refine ⟨ρ, r, x0, rfl, sr, sl.ext er, ?_⟩
      cases eb : sb ρ r.S with
      | nx ρ2 S2 =>
        rw [eb] at k2
        intro u σ2 h1 h2 h3 h4
        refine ⟨ρ2, u, rfl, h2, h4, ?_⟩
        rw [h1]
        exact SPost.extS h3 k2
      | ct ρ2 S2 =>
        rw [eb] at k2
        intro u σ2 h1 h2 h3 h4
        refine ⟨ρ2, u, rfl, h2, h4, ?_⟩
        rw [h1]
        exact SPost.extS h3 k2
      | bk ρ2 S2 => rw [eb] at k2; exact k2
      | rt d S2 => rw [eb] at k2; exact k2
      | ex x ρ2 S2 => rw [eb] at k2; exact k2
      | no => rw [eb] at k2; exact k2.elim
end

/-! ## comprehensions -/
def wipeU (ρ : Env) : List Nat → Env
  | [] => ρ
  | v :: vs => (wipeU ρ vs).set v none
def Res.nox {α : Type} (r : Res α) : Res α := match r with
  | .ex _ _ => .no
  | r => r
def snoc (acc : List D) (y : U) (S : List Box) : Res (List D) := match y with
  | .v y => if acc.length < sizeLine then .ok (acc ++ [y]) S else .no
  | _ => .no
/-- the items made so far, then those of the rest (no exception leaves) -/
def lcF (t : Tgt) (c : CB) (e : CE) (ρ : Env) : List D → List D → List Box → Res (List D)
  | [], acc, S => .ok acc S
  | d :: ds, acc, S => match t.put d ρ with
    | none => .no
    | some ρ1 => (c ρ1 S).nox.bind fun b S1 => if b = true then (e ρ1 S1).nox.bind fun y S2 => (snoc acc y S2).bind (lcF t c e ρ ds) else lcF t c e ρ ds acc S1
def cLc (src : CI) (t : Tgt) (c : CB) (e : CE) (ws : List Nat) : CL := fun ρ S => (src ρ S).bind fun ds S1 => lcF t c e (wipeU ρ ws) ds [] S1
def bYes : CB := fun _ S => .ok true S
def W0 : WX := fun _ _ _ _ => False

theorem wipe_get {σ : L2.St} {j : Nat} : ∀ {vs : List Nat}, j ∉ vs → (wipe σ vs)[j]? = σ[j]?
  | [], _ => rfl
  | v :: vs, h => by
    have hv : v ≠ j := fun z => h (by rw [z]; exact List.mem_cons_self)
    show ((wipe σ vs).set v none)[j]? = σ[j]?
    rw [List.getElem?_set_ne hv]
    exact wipe_get fun z => h (List.mem_cons_of_mem _ z)
theorem wipe_at {σ : L2.St} {j : Nat} : ∀ {vs : List Nat}, j ∈ vs → j < σ.length → (wipe σ vs)[j]? = some none
  | [], h, _ => by cases h
  | v :: vs, h, hl => by
    show ((wipe σ vs).set v none)[j]? = some none
    by_cases z : v = j
    · subst z
      rw [List.getElem?_set_self (by rw [wipe_length]; exact hl)]
    · rw [List.getElem?_set_ne z]
      rcases List.mem_cons.mp h with q | q
      · exact absurd q.symm z
      · exact wipe_at q hl
theorem wipe_agree {σ σ' : L2.St} {ids vs : List Nat} (g : Agree ids (wipe σ vs) σ') (hs : ∀ i ∈ ids, i ∈ vs) : wipe σ' vs = wipe σ vs := by
  have hl : σ'.length = σ.length := g.1.trans (wipe_length σ vs)
  refine List.ext_getElem? fun j => ?_
  by_cases hj : j ∈ vs
  · by_cases hlt : j < σ.length
    · rw [wipe_at hj hlt, wipe_at hj (by rw [hl]; exact hlt)]
    · rw [List.getElem?_eq_none (by rw [wipe_length, hl]; omega), List.getElem?_eq_none (by rw [wipe_length]; omega)]
  · have e1 := g.2 j fun z => hj (hs j z)
    rw [wipe_get hj, e1]
theorem SlR.unset {G : Cn} {p : Pt} {x0 : Addr → Prop} {σ : L2.St} {ρ : Env} (sl : SlR G x0 p σ ρ) (i : Nat) : SlR G x0 p (σ.set i none) (ρ.set i none) := by
  have back : ∀ (j : Nat) (d : U), (ρ.set i none)[j]? = some (some d) → i ≠ j ∧ ρ[j]? = some (some d) := fun j d h => by
    by_cases z : i = j
    · subst z
      by_cases hi : i < ρ.length
      · rw [List.getElem?_set_self hi] at h
        cases h
      · rw [List.getElem?_eq_none (by rw [List.length_set]; omega)] at h
        cases h
    · rw [List.getElem?_set_ne z] at h
      exact ⟨z, h⟩
  refine ⟨by rw [List.length_set, List.length_set]; exact sl.len, fun j d h => ?_, fun j k xs ys w hj hk wj wk => ?_, fun j xs a hj ha => ?_, sl.sub⟩
  · obtain ⟨z, h⟩ := back j d h
    obtain ⟨v, h1, h2⟩ := sl.rel j d h
    exact ⟨v, by rw [List.getElem?_set_ne z]; exact h1, h2⟩
  · obtain ⟨z1, h1⟩ := back j _ hj
    obtain ⟨z2, h2⟩ := back k _ hk
    rw [List.getElem?_set_ne z1] at wj
    rw [List.getElem?_set_ne z2] at wk
    exact sl.one j k xs ys w h1 h2 wj wk
  · obtain ⟨z1, h1⟩ := back j _ hj
    rw [List.getElem?_set_ne z1] at ha
    exact sl.out j xs a h1 ha
theorem SlR.wipe {G : Cn} {p : Pt} {x0 : Addr → Prop} {σ : L2.St} {ρ : Env} (sl : SlR G x0 p σ ρ) : ∀ vs : List Nat, SlR G x0 p (L2.wipe σ vs) (wipeU ρ vs)
  | [] => sl
  | v :: vs => (SlR.wipe sl vs).unset v

/-- what stands while a comprehension makes its list at a -/
structure Mid (G : Cn) (x0 : Addr → Prop) (q0 q : Pt) (a : Addr) (σ : L2.St) (ρ : Env) (acc : List D) : Prop where
  st : StR G q
  ex : ExtS q0.x q0 q
  xs : ∀ b, q.x b ↔ q0.x b ∨ b = a
  sl : SlR G x0 q σ ρ
  it : ∃ vs, q.H a = some (.lst vs) ∧ RpL G q vs acc
section
variable {G : Cn} {x0 : Addr → Prop} {q0 q r : Pt} {a : Addr} {σ : L2.St} {ρ : Env} {acc : List D}
theorem Mid.start (s : StR G q0) (sl : SlR G x0 q0 σ ρ) (ha : q0.H a = none) : Mid G x0 q0 ⟨upd q0.H a (.lst []), q0.S, q0.m, fun b => q0.x b ∨ b = a⟩ a σ ρ [] := by
  have nl := s.fresh ha
  have nb : ∀ n b, q0.S[n]? = some b → b.live = true → q0.m n ≠ a := fun n b hn hl z => nl (.inr ⟨n, b, hn, hl, z⟩)
  have nx : ∀ b, q0.x b → b ≠ a := fun b hb z => nl (.inl (by rw [← z]; exact hb))
  have e : ExtS q0.x q0 ⟨upd q0.H a (.lst []), q0.S, q0.m, fun b => q0.x b ∨ b = a⟩ := by
    refine ⟨fun c u hc _ => (upd_ne (ne_of_none hc ha)).trans hc, fun c l => ?_, fun _ _ => rfl, Nat.le_refl _, fun c hc => upd_ne (nx c hc)⟩
    rcases l with l | l
    · rcases l with l | l
      · exact .inl (.inl l)
      · exact .inr (by rw [l]; exact ha)
    · exact .inl (.inr l)
  refine ⟨⟨fun n b hn => ?_, s.inj, fun n b hn hl hx => ?_, fun c hc => ?_⟩, e, fun b => Iff.rfl, ⟨sl.len, fun i d h => ?_, sl.one, sl.out, fun b hb => .inl (sl.sub b hb)⟩, ⟨[], upd_same, .nil⟩⟩
  · have k := s.ok n b hn
    cases hl : b.live with
    | false => rw [dead_of hl]; trivial
    | true => exact k.ext e (upd_ne (nb n b hn hl)).symm
  · rcases hx with hx | hx
    · exact s.sep n b hn hl hx
    · exact nb n b hn hl hx
  · rcases hc with hc | hc
    · obtain ⟨u, hu⟩ := s.res c hc
      exact ⟨u, (upd_ne (nx c hc)).trans hu⟩
    · exact ⟨_, by rw [hc]; exact upd_same⟩
  · obtain ⟨v, h1, h2⟩ := sl.rel i d h
    refine ⟨v, h1, ?_⟩
    cases h2 with
    | v h2 => exact .v (h2.ext e)
    | b b1 b2 => exact .b b1 b2
    | o o1 o2 o3 => exact .o ((e.res _ o2).trans o1) (.inl o2) (o3.ext e)
theorem Mid.step (m : Mid G x0 q0 q a σ ρ acc) (sr : StR G r) (e : Ext q r) : Mid G x0 q0 r a σ ρ acc := by
  obtain ⟨vs, h1, h2⟩ := m.it
  have hx : q.x a := (m.xs a).mpr (.inr rfl)
  refine ⟨sr, m.ex.trans (e.toExtS.mono fun b hb => (m.xs b).mpr (.inl hb)), fun b => by rw [e.same]; exact m.xs b, m.sl.ext e, ⟨vs, (e.res a hx).trans h1, h2.ext e.toExtS⟩⟩
theorem Mid.slots {σ' : L2.St} {ρ' : Env} (m : Mid G x0 q0 q a σ ρ acc) (sl : SlR G x0 q σ' ρ') : Mid G x0 q0 q a σ' ρ' acc := ⟨m.st, m.ex, m.xs, sl, m.it⟩
theorem Mid.snoc (m : Mid G x0 q0 q a σ ρ acc) (nx : ¬ q0.x a) (no : ∀ (j : Nat) (ys : List D), ρ[j]? = some (some (.o ys)) → σ[j]? ≠ some (some (.ref a))) {v : V} {y : D} (r : Rp G q v y) :
    ∃ vs, q.H a = some (.lst vs) ∧ vs.length = acc.length ∧ Mid G x0 q0 (q.new a (.lst (vs ++ [v]))) a σ ρ (acc ++ [y]) := by
  obtain ⟨vs, h1, h2⟩ := m.it
  have hx : q.x a := (m.xs a).mpr (.inr rfl)
  have nb : ∀ n b, q.S[n]? = some b → b.live = true → q.m n ≠ a := fun n b hn hl z => m.st.sep n b hn hl (by rw [z]; exact hx)
  have e : ExtS q0.x q (q.new a (.lst (vs ++ [v]))) := ⟨fun c u hc nl => (upd_ne fun z => nl (.inl (by rw [z]; exact hx))).trans hc, fun c l => .inl l, fun _ _ => rfl, Nat.le_refl _, fun c hc => upd_ne fun z => nx (by rw [← z]; exact hc)⟩
  refine ⟨vs, h1, h2.length, ⟨⟨fun n b hn => ?_, m.st.inj, m.st.sep, fun c hc => ?_⟩, m.ex.trans e, m.xs, ⟨m.sl.len, fun j d hj => ?_, m.sl.one, m.sl.out, m.sl.sub⟩, ⟨_, upd_same, (h2.ext e).app (.cons (r.ext e) .nil)⟩⟩⟩
  · have k := m.st.ok n b hn
    cases hl : b.live with
    | false => rw [dead_of hl]; trivial
    | true => exact k.ext e (upd_ne (nb n b hn hl)).symm
  · by_cases z : c = a
    · exact ⟨_, by rw [z]; exact upd_same⟩
    · obtain ⟨u, hu⟩ := m.st.res c hc
      exact ⟨u, (upd_ne z).trans hu⟩
  · obtain ⟨w, w1, w2⟩ := m.sl.rel j d hj
    refine ⟨w, w1, ?_⟩
    cases w2 with
    | v w2 => exact .v (w2.ext e)
    | b b1 b2 => exact .b b1 b2
    | @o c ws ds o1 o2 o3 =>
      have ne : c ≠ a := fun y => no j ds hj (by rw [← y]; exact w1)
      exact .o ((upd_ne ne).trans o1) o2 (o3.ext e)
/-- the list is made: as if it had been laid down just now -/
theorem Mid.fin (m : Mid G x0 q0 q a σ ρ acc) (s0 : StR G q0) (ha : q0.H a = none) : ∃ (r : Pt) (vs : List V), r.S = q.S ∧ StR G r ∧ Ext q0 r ∧ r.H a = none ∧ RpL G r vs acc ∧ upd r.H a (.lst vs) = q.H := by
  obtain ⟨vs, h1, h2⟩ := m.it
  have hx : q.x a := (m.xs a).mpr (.inr rfl)
  have nx : ∀ b, q0.x b → b ≠ a := fun b hb z => s0.fresh ha (.inl (by rw [← z]; exact hb))
  have nb : ∀ n b, q.S[n]? = some b → b.live = true → q.m n ≠ a := fun n b hn hl z => m.st.sep n b hn hl (by rw [z]; exact hx)
  have hne : ∀ b, b ≠ a → (fun b => if b = a then none else q.H b) b = q.H b := fun b hb => if_neg hb
  have e : ExtS No q ⟨fun b => if b = a then none else q.H b, q.S, q.m, q0.x⟩ := by
    refine ⟨fun c u hc nl => ?_, fun c l => ?_, fun _ _ => rfl, Nat.le_refl _, fun _ h => h.elim⟩
    · exact (hne c fun z => nl (.inl (by rw [z]; exact hx))).trans hc
    · rcases l with l | l
      · exact .inl (.inl ((m.xs c).mpr (.inl l)))
      · exact .inl (.inr l)
  refine ⟨⟨fun b => if b = a then none else q.H b, q.S, q.m, q0.x⟩, vs, rfl, ⟨fun n b hn => ?_, m.st.inj, fun n b hn hl hx2 => m.st.sep n b hn hl ((m.xs _).mpr (.inl hx2)), fun c hc => ?_⟩, ⟨⟨fun c u hc nl => ?_, fun c l => ?_, m.ex.map, m.ex.len, fun c hc => (hne c (nx c hc)).trans (m.ex.res c hc)⟩, rfl⟩, if_pos rfl, h2.ext e, ?_⟩
  · have k := m.st.ok n b hn
    cases hl : b.live with
    | false => rw [dead_of hl]; trivial
    | true => exact k.ext e (hne _ (nb n b hn hl)).symm
  · obtain ⟨u, hu⟩ := m.st.res c ((m.xs c).mpr (.inl hc))
    exact ⟨u, (hne c (nx c hc)).trans hu⟩
  · exact (hne c (ne_of_none hc ha)).trans (m.ex.keep c u hc nl)
  · have l2 : Live q c := by
      rcases l with l | l
      · exact .inl ((m.xs c).mpr (.inl l))
      · exact .inr l
    exact m.ex.live c l2
  · funext b
    show (if b = a then some (HO.lst vs) else (if b = a then none else q.H b)) = q.H b
    by_cases z : b = a
    · rw [if_pos z, z, h1]
    · rw [if_neg z, if_neg z]
end
theorem Res.nox_ok {α : Type} {r : Res α} {G : Cn} {p : Pt} {Wk : XK} {β : Type} {f : α → List Box → Res β} {Q : β → Pt → Prop} (h : RPost G p Wk (r.nox.bind f) Q) : ∃ a S, r = .ok a S ∧ RPost G p Wk (f a S) Q := by
  cases r with
  | ok a S => exact ⟨a, S, rfl, h⟩
  | ex x S => exact h.elim
  | no => exact h.elim
section
variable {X : Cx} {cm : Nat → Addr} {W : WX} {t : Tgt} {src : CI} {tc : CB} {ce : CE} {ws : List Nat}
theorem lc_imp (ht : ∀ i ∈ t.ids, i ∈ ws) {σ : L2.St} {H : Hp} {Q : VK} (h : tF (Gx X cm) W (cLc src t tc ce ws) σ H Q) : tLc (tI (Gx X cm) W src) (tG (Gx X cm) t) (tVb (Gx X cm) W0 tc) (tV (Gx X cm) W0 ce) ws σ H Q := by
  obtain ⟨ρ, p, x0, hH, st, sl, k⟩ := h
  refine ⟨ρ, p, x0, hH, st, sl, (RPost.bind k).mono fun ds q0 sq0 eq0 k2 J hJ a ha => ?_⟩
  have slw := (sl.ext eq0).wipe ws
  have nx : ¬ q0.x a := fun z => sq0.fresh ha (.inl z)
  -- no list of the frame's own stands at a
  have no : ∀ (j : Nat) (ys : List D), (wipeU ρ ws)[j]? = some (some (.o ys)) → (wipe σ ws)[j]? ≠ some (some (.ref a)) := fun j ys hj hw => by
    obtain ⟨b, vs, h1, h2, _⟩ := slw.own hj
    rw [hw] at h1
    cases h1
    rw [ha] at h2
    cases h2
  refine ⟨fun i m H => ∃ (q : Pt) (acc : List D), q.H = H ∧ Mid (Gx X cm) x0 q0 q a (wipe σ ws) (wipeU ρ ws) acc ∧ i + m = ds.length ∧
    RPost (Gx X cm) q0 (WE W σ) (lcF t tc ce (wipeU ρ ws) (ds.drop i) acc q.S) (fun xs q => ∀ (a : Addr) (vs : List V), q.H a = none → RpL (Gx X cm) q vs xs → Q (.ref a) (upd q.H a (.lst vs))),
    ⟨ds.length, _, [], rfl, Mid.start sq0 slw ha, Nat.zero_add _, k2⟩, ?_⟩
  rintro i m H ⟨q, acc, rfl, M, hm, k⟩
  have eqN : ExtS No q0 q := M.ex.mono fun _ h => h.elim
  by_cases hi : i < ds.length
  · have hd : ds[i]? = some ds[i] := List.getElem?_eq_getElem hi
    rw [List.drop_eq_getElem_cons hi] at k
    have k : RPost (Gx X cm) q0 (WE W σ) (match t.put ds[i] (wipeU ρ ws) with
      | none => .no
      | some ρ1 => (tc ρ1 q.S).nox.bind fun b S1 => if b = true then (ce ρ1 S1).nox.bind fun y S2 => (snoc acc y S2).bind (lcF t tc ce (wipeU ρ ws) (ds.drop (i + 1))) else lcF t tc ce (wipeU ρ ws) (ds.drop (i + 1)) acc S1)
      (fun xs q => ∀ (a : Addr) (vs : List V), q.H a = none → RpL (Gx X cm) q vs xs → Q (.ref a) (upd q.H a (.lst vs))) := k
    refine .inr ⟨hJ.go q i M.st eqN hi, fun H => ∃ (q : Pt) (acc : List D), q.H = H ∧ Mid (Gx X cm) x0 q0 q a (wipe σ ws) (wipeU ρ ws) acc ∧ i + 1 + (m - 1) = ds.length ∧
      RPost (Gx X cm) q0 (WE W σ) (lcF t tc ce (wipeU ρ ws) (ds.drop (i + 1)) acc q.S) (fun xs q => ∀ (a : Addr) (vs : List V), q.H a = none → RpL (Gx X cm) q vs xs → Q (.ref a) (upd q.H a (.lst vs))),
      fun H' h => ⟨m - 1, by omega, h⟩, fun x H' hy => ?_⟩
    obtain ⟨r, rfl, hS, sr, er, rx⟩ := hJ.yld q i x H' ds[i] M.st eqN hd hy
    have M1 := M.step sr er
    rw [← hS] at k
    cases ep : t.put ds[i] (wipeU ρ ws) with
    | none => rw [ep] at k; exact k.elim
    | some ρ1 =>
      rw [ep] at k
      obtain ⟨b, S1, eb, k⟩ := Res.nox_ok k
      refine ⟨wipeU ρ ws, r, x0, ds[i], ρ1, rfl, sr, M1.sl, rx, ep, fun σ1 sl1 g1 => ⟨wipe_agree g1 ht, ?_⟩⟩
      refine ⟨ρ1, r, x0, rfl, sr, sl1, ?_⟩
      rw [eb]
      intro u hu su eu
      have M2 := M1.step su eu
      rw [← hu] at k
      cases b with
      | false => exact ⟨u, acc, rfl, M2, by omega, k⟩
      | true =>
        obtain ⟨y, S2, ey, k⟩ := Res.nox_ok k
        refine ⟨ρ1, u, x0, rfl, su, sl1.ext eu, ?_⟩
        rw [ey]
        intro z hz sz ez v rv
        have M3 := M2.step sz ez
        rw [← hz] at k
        cases rv with
        | b _ _ => exact k.elim
        | o _ _ _ => exact k.elim
        | @v _ d rv =>
          have k : RPost (Gx X cm) q0 (WE W σ) ((if acc.length < sizeLine then Res.ok (acc ++ [d]) z.S else .no).bind (lcF t tc ce (wipeU ρ ws) (ds.drop (i + 1))))
            (fun xs q => ∀ (a : Addr) (vs : List V), q.H a = none → RpL (Gx X cm) q vs xs → Q (.ref a) (upd q.H a (.lst vs))) := k
          by_cases hz2 : acc.length < sizeLine
          · rw [if_pos hz2] at k
            obtain ⟨vs, h1, h2, M4⟩ := M3.snoc nx no rv
            exact ⟨vs, h1, by rw [h2]; exact hz2, _, _, rfl, M4, by omega, k⟩
          · rw [if_neg hz2] at k
            exact k.elim
  · have z : i = ds.length := by omega
    subst z
    rw [List.drop_eq_nil_of_le (Nat.le_refl _)] at k
    obtain ⟨r, vs, h1, h2, h3, h4, h5, h6⟩ := M.fin sq0 ha
    have k2 := k r h1 h2 h3 a vs h4 h5
    rw [h6] at k2
    exact .inl ⟨hJ.stop q M.st eqN, k2⟩
theorem c_yes {X : Cx} {cm : Nat → Addr} : PTs X [] (tVb (Gx X cm) W0 bYes) := by
  refine ⟨fun pins s σ H Q I ⟨ρ, p, x0, hH, st, sl, k⟩ => pts_nil.run pins s σ H Q I ?_⟩
  have k2 := RPost.here (W := WE W0 σ) (Q := fun b q => Q b q.H) st k
  rw [hH] at k2
  exact k2
theorem f_lc {elt tg iter : Expr} {ifs : List Expr} {scope : Scope} {own : List (Str × Nat)} {pos : Pos} (hc : X.calm = true) (hN : X.N.Nodup) (hi : PI X tg iter (tI (Gx X cm) W src)) (ok : BlkOk X.N X.env.scope scope own)
    (hg : ∀ (s : Shared) (H : Hp) (C : Addr) (cl : List (Str × Addr)) (fp : List Addr), PG (X.blk s H scope (compEnvC scope cl C X.env) fp) tg (tG (Gx X cm) t))
    (ht : ∀ (s : Shared) (H : Hp) (C : Addr) (cl : List (Str × Addr)) (fp : List Addr), PTs (X.blk s H scope (compEnvC scope cl C X.env) fp) ifs (tVb (Gx X cm) W0 tc))
    (he : ∀ (s : Shared) (H : Hp) (C : Addr) (cl : List (Str × Addr)) (fp : List Addr), PE (X.blk s H scope (compEnvC scope cl C X.env) fp) elt (tV (Gx X cm) W0 ce)) (hids : ∀ i ∈ t.ids, i ∈ own.map (·.2) := by decide) (hs : ∀ x, foldedSetIterable iter X.env x = pure x := by intro _; rfl) :
    PE X (.ListComp elt [⟨tg, iter, ifs, 0⟩] scope pos) (tF (Gx X cm) W (cLc src t tc ce (own.map (·.2)))) :=
  pe_imp (pe_lc hc hN hi ok hg ht he hs) fun σ H Q h => lc_imp hids h
end
end Rn
set_option Elab.async false
set_option linter.all false
set_option maxRecDepth 100000
set_option maxHeartbeats 4000000
namespace Rn
open PySem L2

/-! ## defs -/
def spV (G : Cn) (n : Nat) (F : CF) : Sp := fun vs H Q E => ∃ (us : List U) (p : Pt), p.H = H ∧ StR G p ∧ RuL G p vs us ∧ us.length = n ∧ us.all notO = true ∧ RPost G p E (F us p.S) (fun d q => ∀ v, notO d = true → Ru G q v d → Q v q.H)
def runF (n : Nat) (c : CS) : CF := fun us S => match c (us.map some ++ List.replicate (n - us.length) none) S with
  | .rt d S' => .ok d S'
  | .nx _ S' => .ok (.v .non) S'
  | .ex x _ S' => .ex x S'
  | _ => .no
def callR (F : CF) (us : List U) (S : List Box) : Res U := if us.all notO = true then F us S else .no
def cCall (F : CF) (cs : List CE) : CE := fun ρ S => (evL cs ρ S).bind (callR F)
abbrev Wc (E : XK) : WX := fun cls d _ H => E cls d H
theorem all_notO {us : List U} (h : us.all notO = true) {i : Nat} {u : U} (e : us[i]? = some u) : notO u = true := List.all_eq_true.mp h u (List.mem_of_getElem? e)

section
variable {P : Program} {w : World} {K : PySem.W.Frag} {mg : Str → Option Value} {base : Heap} {cm : Nat → Addr}
theorem start_sl {G : Cn} {p : Pt} {vs : List V} {us : List U} {N : List Str} (r : RuL G p vs us) (ha : us.all notO = true) (hl : us.length ≤ N.length) : SlR G p.x p (L2.start N vs) (us.map some ++ List.replicate (N.length - us.length) none) := by
  have el := r.length
  have get : ∀ (i : Nat) (d : U), (us.map some ++ List.replicate (N.length - us.length) none)[i]? = some (some d) → us[i]? = some d := fun i d h => by
    by_cases hi : i < us.length
    · rw [List.getElem?_append_left (by rw [List.length_map]; exact hi), List.getElem?_map] at h
      cases e : us[i]? with
      | none => rw [e] at h; cases h
      | some u => rw [e] at h; cases h; rfl
    · rw [List.getElem?_append_right (by rw [List.length_map]; omega), List.getElem?_replicate] at h
      split at h <;> cases h
  refine ⟨?_, fun i d h => ?_, fun i j xs ys v hi hj _ _ => ?_, fun i xs a hi _ => ?_, fun a h => h⟩
  · unfold L2.start
    rw [List.length_append, List.length_append, List.length_map, List.length_map, List.length_replicate, List.length_replicate, el]
  · have h1 := get i d h
    obtain ⟨v, hv, rv⟩ := r.get h1
    refine ⟨v, ?_, rv⟩
    have hi : i < vs.length := (List.getElem?_eq_some_iff.mp hv).1
    unfold L2.start
    rw [List.getElem?_append_left (by rw [List.length_map]; exact hi), List.getElem?_map, hv]
    rfl
  · have h1 := all_notO ha (get i _ hi)
    cases h1
  · have h1 := all_notO ha (get i _ hi)
    cases h1
/-- back at the caller's: what the frame owned is nobody's -/
theorem leave_pt {G : Cn} {p q : Pt} (sq : StR G q) (e : ExtS p.x p q) (sub : ∀ a, p.x a → q.x a) : StR G ⟨q.H, q.S, q.m, p.x⟩ ∧ Ext p ⟨q.H, q.S, q.m, p.x⟩ ∧ ∀ x0, ExtS x0 q ⟨q.H, q.S, q.m, p.x⟩ := by
  obtain ⟨s1, e1⟩ := sq.same (S' := q.S) (x' := p.x) rfl (fun n b h => .inr h) sub
  exact ⟨s1, ⟨e.trans (e1 p.x), rfl⟩, e1⟩
theorem ERel.ext {G : Cn} {p q : Pt} {x : Exn} {cls : Value} {dx : Option Addr} {x0 : Addr → Prop} (e : ExtS x0 p q) (r : ERel G p x cls dx) : ERel G q x cls dx := by
  refine ⟨r.cls, ?_⟩
  rcases r.fs with h | ⟨d, vfs, h1, h2, h3, h4⟩
  · exact .inl h
  · exact .inr ⟨d, vfs, h1, e.keep _ _ h2 h3, e.nl (.inl h2) h3, h4.ext e⟩
/-- a def by its body -/
theorem fn_body {x qual : Str} {st : Stmt} {f : Addr} {fd : FuncData} {N ps : List Str} {k : Nat} {c : CS} (F : Fun K x qual st f fd) (S : FnScope N ps (defScope st)) (hl : ps.length ≤ N.length)
    (hb : ∀ (X : Cx) (E : XK), X.prog = P → X.w = w → X.K = K → X.mg = mg → X.base = base → X.N = N → X.calm = true → X.env.scope = defScope st → X.fn = (fun _ => true) → X.stack = X.env :: X.outer → X.env.frame = some X.env.locals → Room k X.A →
      Takes X (Wc E) → PassesOwn (model X.prog X.w) X.A X.env X.xe → PSs X (defBody st) (tS (Gx X cm) (Wc E) c)) :
    FnOk P w K mg base (L2.CX P w) (k + 1) f fd ps (spV ⟨K, cm⟩ ps.length (runF N.length c)) := by
  refine F.okX S (fun vs H Q E ⟨us, p, _, _, r, hn, _⟩ => r.length.trans hn) (fun cdv A outer s H vs Q E hr ⟨us, p, hH, sp, r, hn, ha, k0⟩ => ?_)
  refine ⟨tS ⟨K, cm⟩ (Wc E) c, hb (cxOf (L2.CX P w) P w K mg base N qual (defScope st) f cdv A outer s H E) E rfl rfl rfl rfl rfl rfl rfl rfl rfl rfl rfl hr (takes_of rfl rfl rfl rfl) (passes_of rfl), ?_⟩
  refine ⟨_, p, p.x, hH, sp, start_sl r ha (by omega), ?_⟩
  unfold runF at k0
  cases e : c (us.map some ++ List.replicate (N.length - us.length) none) p.S with
  | nx ρ S' =>
    rw [e] at k0
    intro q σ h1 h2 h3 h4
    obtain ⟨s1, e1, e2⟩ := leave_pt h2 h3 h4.sub
    exact k0 ⟨q.H, q.S, q.m, p.x⟩ h1 s1 e1 .non rfl (.v .non)
  | rt d S' =>
    rw [e] at k0
    intro q v h1 h2 h3 h4 h5 h6
    obtain ⟨s1, e1, e2⟩ := leave_pt h2 h3 h4
    exact k0 ⟨q.H, q.S, q.m, p.x⟩ h1 s1 e1 v h5 (h6.extS (e2 No) h5)
  | ex x ρ S' =>
    rw [e] at k0
    intro q σ cls dx h1 h2 h3 h4 h5
    obtain ⟨s1, e1, e2⟩ := leave_pt h2 h3 h4.sub
    exact k0 ⟨q.H, q.S, q.m, p.x⟩ cls dx h1 s1 e1 (h5.ext (e2 No))
  | bk ρ S' => rw [e] at k0; exact k0.elim
  | ct ρ S' => rw [e] at k0; exact k0.elim
  | no => rw [e] at k0; exact k0.elim
/-- a function that answers where F' does, and as it -/
def Mir (n : Nat) (F F' : CF) : Prop := ∀ (us : List U) (S : List Box), us.length = n → F' us S = .no ∨ F us S = F' us S
theorem fn_mir {k : Nat} {f : Addr} {fd : FuncData} {ps : List Str} {F F' : CF} {C : CXT} (h : FnOk P w K mg base C k f fd ps (spV ⟨K, cm⟩ ps.length F)) (m : Mir ps.length F F') : FnOk P w K mg base C k f fd ps (spV ⟨K, cm⟩ ps.length F') := by
  refine h.imp fun vs H Q E ⟨us, p, hH, sp, r, hn, ha, k0⟩ => ⟨us, p, hH, sp, r, hn, ha, ?_⟩
  rcases m us p.S hn with e | e
  · rw [e] at k0; exact k0.elim
  · rw [e]; exact k0
/-- what was added to the store, and nothing tells of, may be forgotten -/
def MirG (n : Nat) (F F' : CF) : Prop := ∀ (us : List U) (S : List Box), us.length = n → F' us S = .no ∨ (∃ d g, F us S = .ok (.v d) (S ++ g) ∧ F' us S = .ok (.v d) S) ∨ (∃ x g, F us S = .ex x (S ++ g) ∧ F' us S = .ex x S)
mutual
theorem Rp.lv {G : Cn} {p q : Pt} (hH : q.H = p.H) (lv : ∀ a, Live q a → Live p a) : ∀ {v : V} {d : D}, Rp G p v d → Rp G q v d
  | _, _, .non => .non
  | _, _, .bl b => .bl b
  | _, _, .int i => .int i
  | _, _, .str x => .str x
  | _, _, .lst h n l => .lst (by rw [hH]; exact h) (fun z => n (lv _ z)) (RpL.lv hH lv l)
  | _, _, .con h n l => .con (by rw [hH]; exact h) (fun z => n (lv _ z)) (RpL.lv hH lv l)
  | _, _, .conK h l => .conK h (RpL.lv hH lv l)
  | _, _, .tup h n l => .tup (by rw [hH]; exact h) (fun z => n (lv _ z)) (RpL.lv hH lv l)
  | _, _, .tupK h l => .tupK h (RpL.lv hH lv l)
  | _, _, .ty n => .ty n
  | _, _, .fn h => .fn h
theorem RpL.lv {G : Cn} {p q : Pt} (hH : q.H = p.H) (lv : ∀ a, Live q a → Live p a) : ∀ {vs : List V} {ds : List D}, RpL G p vs ds → RpL G q vs ds
  | _, _, .nil => .nil
  | _, _, .cons h t => .cons (Rp.lv hH lv h) (RpL.lv hH lv t)
end
theorem FRel.back {G : Cn} {p q : Pt} {vfs wfs : List (Str × V)} {fs : List (Str × U)} (k : ∀ n, n < p.S.length → q.m n = q.m n) (a : FRel G p wfs fs) : ∀ {r : Pt}, r.m = q.m → r.S = p.S → (∀ v d, Rp G q v d → Rp G r v d) → FRel G q vfs fs → FRel G r vfs fs := by
  intro r hm hS hr b
  induction b generalizing wfs with
  | nil => exact .nil
  | @cons f v d vs ds n h t ih =>
    cases a with
    | cons n2 h2 t2 =>
      refine .cons n ?_ (ih t2)
      cases h with
      | v h => exact .v (hr _ _ h)
      | b h3 h4 =>
        cases h2 with
        | b h5 h6 => exact .b (by rw [hS]; exact h5) (by rw [hm]; exact h4)
      | o _ _ _ => cases n
theorem forget_pt {G : Cn} {p q : Pt} {g : List Box} (sp : StR G p) (sq : StR G q) (e : Ext p q) (hS : q.S = p.S ++ g) : StR G ⟨q.H, p.S, q.m, q.x⟩ ∧ Ext p ⟨q.H, p.S, q.m, q.x⟩ ∧ (∀ a u, q.H a = some u → ¬ Live q a → ¬ Live ⟨q.H, p.S, q.m, q.x⟩ a) ∧ ∀ v d, Rp G q v d → Rp G ⟨q.H, p.S, q.m, q.x⟩ v d := by
  have up : ∀ (n : Nat) (b : Box), p.S[n]? = some b → q.S[n]? = some b := fun n b h => by
    rw [hS, List.getElem?_append_left (List.getElem?_eq_some_iff.mp h).1]
    exact h
  have lv : ∀ a, Live ⟨q.H, p.S, q.m, q.x⟩ a → Live q a := fun a l => by
    rcases l with l | ⟨n, b, hn, hl, hm⟩
    · exact .inl l
    · exact .inr ⟨n, b, up n b hn, hl, hm⟩
  have hr : ∀ v d, Rp G q v d → Rp G ⟨q.H, p.S, q.m, q.x⟩ v d := fun v d h => Rp.lv (p := q) (q := ⟨q.H, p.S, q.m, q.x⟩) rfl lv h
  have hrl : ∀ vs ds, RpL G q vs ds → RpL G ⟨q.H, p.S, q.m, q.x⟩ vs ds := fun vs ds h => RpL.lv (p := q) (q := ⟨q.H, p.S, q.m, q.x⟩) rfl lv h
  refine ⟨⟨fun n b hn => ?_, fun i j b c hi li hj lj hm => sq.inj i j b c (up i b hi) li (up j c hj) lj hm, fun n b hn hl hx => sq.sep n b (up n b hn) hl hx, sq.res⟩,
    ⟨⟨e.keep, fun a l => e.live a (lv a l), e.map, Nat.le_refl _, e.res⟩, e.same⟩, fun a u _ h l => h (lv a l), hr⟩
  have k := sq.ok n b (up n b hn)
  have k0 := sp.ok n b hn
  cases b with
  | dead => trivial
  | lst ds =>
    obtain ⟨vs, h1, h2⟩ := k
    exact ⟨vs, h1, hrl _ _ h2⟩
  | ins c fs =>
    obtain ⟨dx, vfs, h1, h2⟩ := k
    obtain ⟨dx0, vfs0, _, h3⟩ := k0
    exact ⟨dx, vfs, h1, FRel.back (p := p) (q := q) (fun _ _ => rfl) h3 rfl rfl hr h2⟩
theorem fn_mirG {k : Nat} {f : Addr} {fd : FuncData} {ps : List Str} {F F' : CF} {C : CXT} (h : FnOk P w K mg base C k f fd ps (spV ⟨K, cm⟩ ps.length F)) (m : MirG ps.length F F') : FnOk P w K mg base C k f fd ps (spV ⟨K, cm⟩ ps.length F') := by
  refine h.imp fun vs H Q E ⟨us, p, hH, sp, r, hn, ha, k0⟩ => ⟨us, p, hH, sp, r, hn, ha, ?_⟩
  rcases m us p.S hn with e | ⟨d, g, e1, e2⟩ | ⟨x, g, e1, e2⟩
  · rw [e] at k0; exact k0.elim
  · rw [e2] at k0
    rw [e1]
    intro q h1 h2 h3 v hv rv
    obtain ⟨s1, x1, _, hr⟩ := forget_pt sp h2 h3 h1
    cases rv with
    | v rv => exact k0 ⟨q.H, p.S, q.m, q.x⟩ rfl s1 x1 v rfl (.v (hr _ _ rv))
  · rw [e2] at k0
    rw [e1]
    intro q cls dx h1 h2 h3 h4
    obtain ⟨s1, x1, nl, hr⟩ := forget_pt sp h2 h3 h1
    refine k0 ⟨q.H, p.S, q.m, q.x⟩ cls dx rfl s1 x1 ⟨h4.cls, ?_⟩
    rcases h4.fs with z | ⟨d, vfs, y1, y2, y3, y4⟩
    · exact .inl z
    · refine .inr ⟨d, vfs, y1, y2, nl d _ y2 y3, ?_⟩
      have go : ∀ {vfs : List (Str × V)} {fs : List (Str × D)}, FRel ⟨K, cm⟩ q vfs (fs.map fun f => (f.1, U.v f.2)) → FRel ⟨K, cm⟩ ⟨q.H, p.S, q.m, q.x⟩ vfs (fs.map fun f => (f.1, U.v f.2)) := by
        intro vfs fs
        induction fs generalizing vfs with
        | nil => intro h; cases h; exact .nil
        | cons f fs ih =>
          intro h
          cases h with
          | cons n h t =>
            cases h with
            | v h => exact .cons rfl (.v (hr _ _ h)) (ih t)
      exact go y4
end

section
variable {X : Cx} {cm : Nat → Addr} {W : WX} {E : XK} {k : Nat} {f : Addr} {fd : FuncData} {ps : List Str} {F : CF} {x m : Str} {p pos apos : Pos} {e o : Expr} {es : List Expr} {cs : List CE} {co ca : CE}
theorem args_step {β : Type} {ρ : Env} {q : Pt} {Wk : XK} {g : List U → List Box → Res β} {R : β → Pt → Prop} (k : RPost (Gx X cm) q Wk ((evL cs ρ q.S).bind g) R) :
    RPost (Gx X cm) q Wk (evL cs ρ q.S) (fun us t => us.length = cs.length ∧ RPost (Gx X cm) t Wk (g us t.S) R) := by
  have k2 := RPost.bind k
  cases e : evL cs ρ q.S with
  | ok us S' =>
    rw [e] at k2
    exact fun t h1 h2 h3 => ⟨evL_length cs ρ q.S us S' e, k2 t h1 h2 h3⟩
  | ex x S' => rw [e] at k2; exact k2
  | no => rw [e] at k2; exact k2
theorem call_sp {us : List U} {vs : List V} {q : Pt} {Wk : XK} {Q : VK} {n : Nat} (sq : StR (Gx X cm) q) (r : RuL (Gx X cm) q vs us) (hn : us.length = n) (k : RPost (Gx X cm) q Wk (callR F us q.S) (fun d q => ∀ v, Ru (Gx X cm) q v d → Q v q.H)) : spV (Gx X cm) n F vs q.H Q Wk := by
  unfold callR at k
  by_cases ha : us.all notO = true
  · rw [if_pos ha] at k
    exact ⟨us, q, rfl, sq, r, hn, ha, k.mono fun d t _ _ h v _ rv => h v rv⟩
  · rw [if_neg ha] at k
    exact k.elim
theorem e_call (FO : FnOk X.prog X.w X.K X.mg X.base (L2.CX X.prog X.w) k f fd ps (spV (Gx X cm) ps.length F)) (hr : Room k X.A) (hg : Gl X x) (hm : X.mg x = some (.ref f)) (hk : PySem.W.keepIn X.K (.ref f) = true) (hb : Binds X.K fd ps []) (tk : Takes X W)
    (ha : PA X (e :: es) (tVa (Gx X cm) W (evL cs))) (hn : cs.length = ps.length := by rfl) (hdb : (x == ("__debug__" : Str)) = false := by decide) (he : starEach (e :: es) X.env = (false, eval e X.env) :: starEach es X.env := by rfl) (hpl : (backTo pos (starEach es X.env)).any (·.1) = false := by rfl) :
    PE X (.Call (.Name x p) (e :: es) [] pos) (tV (Gx X cm) W (cCall F cs)) := by
  refine pe_imp (pe_callS FO hr hg hm hk hb (fun σ => passAt tk σ) ha hdb he hpl) fun σ H Q ⟨ρ, p, x0, hH, st, sl, k⟩ => ?_
  exact ⟨ρ, p, x0, hH, st, sl, (args_step k).mono fun us q sq eq ⟨hl, k2⟩ vs rvs => call_sp sq rvs (hl.trans hn) k2⟩
end
end Rn
set_option Elab.async false
set_option linter.all false
set_option maxRecDepth 100000
set_option maxHeartbeats 4000000
namespace Rn
open PySem L2 PyProof.Rows

/-! ## operators on values -/
def dAdd : OD2 := fun x y _ => match x, y with
  | .v (.int i), .v (.int j) => some (.int (i + j))
  | .v (.str a), .v (.str b) => if a.length + b.length ≤ sizeLine then some (.str (a ++ b)) else none
  | .v (.tup a), .v (.tup b) => if a.length + b.length ≤ sizeLine then some (.tup (a ++ b)) else none
  | _, _ => none
def dSub : OD2 := fun x y _ => match x, y with
  | .v (.int i), .v (.int j) => some (.int (i - j))
  | _, _ => none
def dMul : OD2 := fun x y _ => match x, y with
  | .v (.int i), .v (.int j) => if (-(2 ^ 64) < i ∧ i < 2 ^ 64) ∨ (-(2 ^ 64) < j ∧ j < 2 ^ 64) then some (.int (i * j)) else none
  | _, _ => none
def dDiv : OD2 := fun x y _ => match x, y with
  | .v (.int i), .v (.int j) => if 0 < j ∧ j < 1073741824 then some (.int (i / j)) else none
  | _, _ => none
def dMod : OD2 := fun x y _ => match x, y with
  | .v (.int i), .v (.int j) => if 0 < j then some (.int (i % j)) else none
  | _, _ => none
def dPow : OD2 := fun x y _ => match x, y with
  | .v (.int i), .v (.int j) => if 0 ≤ j ∧ j ≤ 1000000 ∧ i.natAbs < 2 ^ 64 then some (.int (i ^ j.toNat)) else none
  | _, _ => none
def dShr : OD2 := fun x y _ => match x, y with
  | .v (.int i), .v (.int j) => if 0 ≤ j then some (.int (i / 2 ^ j.toNat)) else none
  | _, _ => none
def dCmpI (f : Int → Int → Bool) : OD2 := fun x y _ => match x, y with
  | .v (.int i), .v (.int j) => some (.bl (f i j))
  | _, _ => none
def dNeg : OD1 := fun x _ => match x with
  | .v (.int i) => some (.int (-i))
  | _ => none
def dIsN : OD2 := fun x y _ => match x, y with
  | .v .non, .v .non => some (.bl true)
  | _, .v .non => some (.bl false)
  | _, _ => none
def dNotN : OD2 := fun x y _ => match x, y with
  | .v .non, .v .non => some (.bl false)
  | _, .v .non => some (.bl true)
  | _, _ => none
/-- one text in another -/
def dInS (neg : Bool) : OD2 := fun x y _ => match x, y with
  | .v (.str i), .v (.str j) => some (.bl (neg != (!(Builtin.Str.occurrences j i 0 j.length 1).isEmpty)))
  | _, _ => none
section
variable {X : Cx} {cm : Nat → Addr}
theorem o_add : OpR X (binaryOp .Add) (rO (Gx X cm) dAdd) := by
  intro pins s σ H x y v u Q I rx ry ⟨p, dx, dy, d, hH, sp, r1, r2, ho, k⟩
  subst hH
  unfold dAdd at ho
  split at ho
  · cases ho
    cases r1 with
    | v r1 => cases r1; cases r2 with
      | v r2 => cases r2; exact op_add pins s σ _ _ _ v u Q I rx ry ⟨_, _, rfl, rfl, k p _ rfl sp (Ext.refl p) (.int _)⟩
  · split at ho
    · rename_i hz
      cases ho
      cases r1 with
      | v r1 => cases r1; cases r2 with
        | v r2 => cases r2; exact op_add_str pins s σ _ _ _ v u Q I rx ry ⟨_, _, rfl, rfl, hz, k p _ rfl sp (Ext.refl p) (.str _)⟩
    · cases ho
  · split at ho
    · rename_i a b hz
      cases ho
      obtain ⟨pa, vs, rfl, h1, l1⟩ := rd_T r1
      obtain ⟨pb, ws, rfl, h2, l2⟩ := rd_T r2
      refine op_catA pins s σ _ _ _ v u Q I rx ry ⟨pa, pb, vs, ws, rfl, rfl, h1, h2, by rw [l1.length, l2.length]; exact hz, fun e => ?_, fun e e2 => ?_, fun _ _ n hn => ?_⟩
      · subst e
        cases l1
        cases r2 with
        | v r2 => exact k p _ rfl sp (Ext.refl p) r2
      · subst e2
        cases l2
        rw [List.append_nil] at k
        cases r1 with
        | v r1 => exact k p _ rfl sp (Ext.refl p) r1
      · obtain ⟨s1, e1, n1⟩ := sp.new (.tup (vs ++ ws)) hn
        exact k (p.new n (.tup (vs ++ ws))) (.ref n) rfl s1 e1 (.tup (.inl upd_same) n1 ((l1.app l2).ext e1.toExtS))
    · cases ho
  · cases ho
/-- operators on two whole numbers -/
theorem o_int {f : Value → Value → Sem Value} {o : OD2} {C : Int → Int → Prop} {g : Int → Int → D} {gv : Int → Int → V} (h : OpR X f (rI C gv)) (hg : ∀ i j p, Rp (Gx X cm) p (gv i j) (g i j))
    (ho : ∀ x y S d, o x y S = some d → ∃ i j, x = .v (.int i) ∧ y = .v (.int j) ∧ C i j ∧ d = g i j) : OpR X f (rO (Gx X cm) o) := by
  intro pins s σ H x y v u Q I rx ry ⟨p, dx, dy, d, hH, sp, r1, r2, hd, k⟩
  subst hH
  obtain ⟨i, j, rfl, rfl, hc, rfl⟩ := ho _ _ _ _ hd
  cases r1 with
  | v r1 => cases r1; cases r2 with
    | v r2 => cases r2; exact h pins s σ _ _ _ v u Q I rx ry ⟨i, j, rfl, rfl, hc, k p _ rfl sp (Ext.refl p) (hg i j p)⟩
theorem rI_of {f : Value → Value → Sem Value} {g : Int → Int → V} (h : OpR X f (rI0 g)) : OpR X f (rI (fun _ _ => True) g) := fun pins s σ H x y v u Q I rx ry ⟨i, j, h1, h2, _, q⟩ => h pins s σ H x y v u Q I rx ry ⟨i, j, h1, h2, q⟩
theorem sub_get (x y : U) (S : List Box) (d : D) (h : dSub x y S = some d) : ∃ i j, x = .v (.int i) ∧ y = .v (.int j) ∧ True ∧ d = .int (i - j) := by
  unfold dSub at h
  split at h
  · cases h; exact ⟨_, _, rfl, rfl, trivial, rfl⟩
  · cases h
theorem mul_get (x y : U) (S : List Box) (d : D) (h : dMul x y S = some d) : ∃ i j, x = .v (.int i) ∧ y = .v (.int j) ∧ CMul i j ∧ d = .int (i * j) := by
  unfold dMul at h
  split at h
  · split at h
    · rename_i hc
      cases h; exact ⟨_, _, rfl, rfl, hc, rfl⟩
    · cases h
  · cases h
theorem div_get (x y : U) (S : List Box) (d : D) (h : dDiv x y S = some d) : ∃ i j, x = .v (.int i) ∧ y = .v (.int j) ∧ CDiv i j ∧ d = .int (i / j) := by
  unfold dDiv at h
  split at h
  · split at h
    · rename_i hc
      cases h; exact ⟨_, _, rfl, rfl, hc, rfl⟩
    · cases h
  · cases h
theorem mod_get (x y : U) (S : List Box) (d : D) (h : dMod x y S = some d) : ∃ i j, x = .v (.int i) ∧ y = .v (.int j) ∧ 0 < j ∧ d = .int (i % j) := by
  unfold dMod at h
  split at h
  · split at h
    · rename_i hc
      cases h; exact ⟨_, _, rfl, rfl, hc, rfl⟩
    · cases h
  · cases h
theorem pow_get (x y : U) (S : List Box) (d : D) (h : dPow x y S = some d) : ∃ i j, x = .v (.int i) ∧ y = .v (.int j) ∧ CPow i j ∧ d = .int (i ^ j.toNat) := by
  unfold dPow at h
  split at h
  · split at h
    · rename_i hc
      cases h; exact ⟨_, _, rfl, rfl, hc, rfl⟩
    · cases h
  · cases h
theorem shr_get (x y : U) (S : List Box) (d : D) (h : dShr x y S = some d) : ∃ i j, x = .v (.int i) ∧ y = .v (.int j) ∧ 0 ≤ j ∧ d = .int (i / 2 ^ j.toNat) := by
  unfold dShr at h
  split at h
  · split at h
    · rename_i hc
      cases h; exact ⟨_, _, rfl, rfl, hc, rfl⟩
    · cases h
  · cases h
theorem cmp_get {f : Int → Int → Bool} (x y : U) (S : List Box) (d : D) (h : dCmpI f x y S = some d) : ∃ i j, x = .v (.int i) ∧ y = .v (.int j) ∧ True ∧ d = .bl (f i j) := by
  unfold dCmpI at h
  split at h
  · cases h; exact ⟨_, _, rfl, rfl, trivial, rfl⟩
  · cases h
theorem o_sub : OpR X (binaryOp .Sub) (rO (Gx X cm) dSub) := o_int (rI_of op_sub) (fun _ _ _ => .int _) sub_get
theorem o_mul : OpR X (binaryOp .Mult) (rO (Gx X cm) dMul) := o_int op_mul (fun _ _ _ => .int _) mul_get
theorem o_div : OpR X (binaryOp .FloorDiv) (rO (Gx X cm) dDiv) := o_int op_fdiv (fun _ _ _ => .int _) div_get
theorem o_mod : OpR X (binaryOp .Mod) (rO (Gx X cm) dMod) := o_int op_mod (fun _ _ _ => .int _) mod_get
theorem o_pow : OpR X (binaryOp .Pow) (rO (Gx X cm) dPow) := o_int op_pow (fun _ _ _ => .int _) pow_get
theorem o_shr : OpR X (binaryOp .RShift) (rO (Gx X cm) dShr) := o_int op_shr (fun _ _ _ => .int _) shr_get
theorem o_imul : OpR X (inplaceOp .Mult) (rO (Gx X cm) dMul) := o_int iop_mul (fun _ _ _ => .int _) mul_get
theorem o_isub : OpR X (inplaceOp .Sub) (rO (Gx X cm) dSub) := o_int (rI_of iop_sub) (fun _ _ _ => .int _) sub_get
/-- += of whole numbers and texts -/
def dAdd1 : OD2 := fun x y _ => match x, y with
  | .v (.int i), .v (.int j) => some (.int (i + j))
  | .v (.str a), .v (.str b) => if a.length + b.length ≤ sizeLine then some (.str (a ++ b)) else none
  | _, _ => none
theorem o_iadd : OpR X (inplaceOp .Add) (rO (Gx X cm) dAdd1) := by
  intro pins s σ H x y v u Q I rx ry ⟨p, dx, dy, d, hH, sp, r1, r2, ho, k⟩
  subst hH
  unfold dAdd1 at ho
  split at ho
  · cases ho
    cases r1 with
    | v r1 => cases r1; cases r2 with
      | v r2 => cases r2; exact iop_add pins s σ _ _ _ v u Q I rx ry ⟨_, _, rfl, rfl, k p _ rfl sp (Ext.refl p) (.int _)⟩
  · split at ho
    · rename_i hz
      cases ho
      cases r1 with
      | v r1 => cases r1; cases r2 with
        | v r2 => cases r2; exact iop_add_str pins s σ _ _ _ v u Q I rx ry ⟨_, _, rfl, rfl, hz, k p _ rfl sp (Ext.refl p) (.str _)⟩
    · cases ho
  · cases ho
theorem o_lt : OpR X (compareOp .Lt) (rO (Gx X cm) (dCmpI fun i j => decide (i < j))) := o_int (rI_of op_lt) (fun _ _ _ => .bl _) cmp_get
theorem o_le : OpR X (compareOp .LtE) (rO (Gx X cm) (dCmpI fun i j => decide (i ≤ j))) := o_int (rI_of op_le) (fun _ _ _ => .bl _) cmp_get
theorem o_gt : OpR X (compareOp .Gt) (rO (Gx X cm) (dCmpI fun i j => decide (j < i))) := o_int (rI_of op_gt) (fun _ _ _ => .bl _) cmp_get
theorem o_ge : OpR X (compareOp .GtE) (rO (Gx X cm) (dCmpI fun i j => decide (j ≤ i))) := o_int (rI_of op_ge) (fun _ _ _ => .bl _) cmp_get
theorem o_neg : UnR X (unaryOp .USub) (rO1 (Gx X cm) dNeg) := by
  intro pins s σ H x v Q I rx ⟨p, dx, d, hH, sp, r1, ho, k⟩
  subst hH
  unfold dNeg at ho
  split at ho
  · cases ho
    cases r1 with
    | v r1 => cases r1; exact un_neg pins s σ _ _ v Q I rx ⟨_, rfl, k p _ rfl sp (Ext.refl p) (.int _)⟩
  · cases ho
theorem non_dec {G : Cn} {p : Pt} {v : V} {u : U} (r : Ru G p v u) : (decide (v = .non) = true ↔ u = .v .non) := by
  rw [decide_eq_true_iff]
  cases r with
  | v r => cases r <;> simp
  | b _ _ => simp
  | o _ _ _ => simp
theorem o_isN : OpR X (compareOp .Is) (rO (Gx X cm) dIsN) := by
  intro pins s σ H x y v u Q I rx ry ⟨p, dx, dy, d, hH, sp, r1, r2, ho, k⟩
  subst hH
  have hy : dy = .v .non ∧ d = .bl (decide (x = .non)) := by
    have z := non_dec r1
    unfold dIsN at ho
    split at ho
    · cases ho
      exact ⟨rfl, by rw [z.mpr rfl]⟩
    · rename_i hne
      cases ho
      refine ⟨rfl, ?_⟩
      cases e : decide (x = .non) with
      | true => exact (hne (z.mp e)).elim
      | false => rfl
    · cases ho
  obtain ⟨rfl, rfl⟩ := hy
  cases r2 with
  | v r2 => cases r2; exact op_isN pins s σ _ _ _ v u Q I rx ry ⟨rfl, k p _ rfl sp (Ext.refl p) (.bl _)⟩
theorem o_notN : OpR X (compareOp .IsNot) (rO (Gx X cm) dNotN) := by
  intro pins s σ H x y v u Q I rx ry ⟨p, dx, dy, d, hH, sp, r1, r2, ho, k⟩
  subst hH
  have hy : dy = .v .non ∧ d = .bl (!decide (x = .non)) := by
    have z := non_dec r1
    unfold dNotN at ho
    split at ho
    · cases ho
      exact ⟨rfl, by rw [z.mpr rfl]; rfl⟩
    · rename_i hne
      cases ho
      refine ⟨rfl, ?_⟩
      cases e : decide (x = .non) with
      | true => exact (hne (z.mp e)).elim
      | false => rfl
    · cases ho
  obtain ⟨rfl, rfl⟩ := hy
  cases r2 with
  | v r2 => cases r2; exact op_notN pins s σ _ _ _ v u Q I rx ry ⟨rfl, k p _ rfl sp (Ext.refl p) (.bl _)⟩
theorem o_inS : OpR X (compareOp .In) (rO (Gx X cm) (dInS false)) := by
  intro pins s σ H x y v u Q I rx ry ⟨p, dx, dy, d, hH, sp, r1, r2, ho, k⟩
  subst hH
  unfold dInS at ho
  split at ho
  · cases ho
    cases r1 with
    | v r1 => cases r1; cases r2 with
      | v r2 => cases r2; exact op_in_str pins s σ _ _ _ v u Q I rx ry ⟨_, _, rfl, rfl, k p _ rfl sp (Ext.refl p) (by rw [Bool.false_bne]; exact .bl _)⟩
  · cases ho
theorem o_notInS : OpR X (compareOp .NotIn) (rO (Gx X cm) (dInS true)) := by
  intro pins s σ H x y v u Q I rx ry ⟨p, dx, dy, d, hH, sp, r1, r2, ho, k⟩
  subst hH
  unfold dInS at ho
  split at ho
  · cases ho
    cases r1 with
    | v r1 => cases r1; cases r2 with
      | v r2 => cases r2; exact op_notin_str pins s σ _ _ _ v u Q I rx ry ⟨_, _, rfl, rfl, k p _ rfl sp (Ext.refl p) (by rw [Bool.true_bne]; exact .bl _)⟩
  · cases ho
end

/-! ## == of data -/
mutual
def toPy : D → Option PyData
  | .non => some .none
  | .bl b => some (.bool b)
  | .int i => some (.int i)
  | .str x => some (.str x)
  | .lst xs => (toPyL xs).map .list
  | .con xs => (toPyL xs).map .list
  | .tup xs => (toPyL xs).map .tuple
  | .ty _ => none
  | .fn _ => none
def toPyL : List D → Option (List PyData)
  | [] => some []
  | d :: ds => match toPy d, toPyL ds with
    | some e, some es => some (e :: es)
    | _, _ => none
end
/-- a list or a value -/
def uPy (u : U) (S : List Box) : Option PyData := match u with
  | .v d => toPy d
  | u => match asL u S with
    | some xs => (toPyL xs).map .list
    | none => none
mutual
theorem dp_of {G : Cn} {p : Pt} : ∀ {v : V} {d : D} {e : PyData}, Rp G p v d → toPy d = some e → Dp G.K p.H v e
  | _, _, e, .non, h => by cases h; exact .non
  | _, _, e, .bl b, h => by cases h; exact .bl b
  | _, _, e, .int i, h => by cases h; exact .int i
  | _, _, e, .str x, h => by cases h; exact .str x
  | _, _, e, .lst (ds := ds) a n l, h => by
    have h : (toPyL ds).map PyData.list = some e := h
    cases q : toPyL ds with
    | none => rw [q] at h; cases h
    | some es => rw [q] at h; cases h; exact .lst (.inl (.inl a)) (dpL_of l q)
  | _, _, e, .con (ds := ds) a n l, h => by
    have h : (toPyL ds).map PyData.list = some e := h
    cases q : toPyL ds with
    | none => rw [q] at h; cases h
    | some es => rw [q] at h; cases h; exact .lst (.inl (.inr a)) (dpL_of l q)
  | _, _, e, .conK (ds := ds) a l, h => by
    have h : (toPyL ds).map PyData.list = some e := h
    cases q : toPyL ds with
    | none => rw [q] at h; cases h
    | some es => rw [q] at h; cases h; exact .lst (.inr a) (dpL_of l q)
  | _, _, e, .tup (ds := ds) a n l, h => by
    have h : (toPyL ds).map PyData.tuple = some e := h
    cases q : toPyL ds with
    | none => rw [q] at h; cases h
    | some es => rw [q] at h; cases h; exact .tup (.inl a) (dpL_of l q)
  | _, _, e, .tupK (ds := ds) a l, h => by
    have h : (toPyL ds).map PyData.tuple = some e := h
    cases q : toPyL ds with
    | none => rw [q] at h; cases h
    | some es => rw [q] at h; cases h; exact .tup (.inr a) (dpL_of l q)
  | _, _, e, .ty n, h => by cases h
  | _, _, e, .fn n, h => by cases h
theorem dpL_of {G : Cn} {p : Pt} : ∀ {vs : List V} {ds : List D} {es : List PyData}, RpL G p vs ds → toPyL ds = some es → DpAll G.K p.H vs es
  | _, _, es, .nil, h => by cases h; exact .nil
  | _, _, es, .cons (d := d) (ds := ds) r l, h => by
    have h : (match toPy d, toPyL ds with | some e, some es => some (e :: es) | _, _ => none) = some es := h
    cases q1 : toPy d with
    | none => rw [q1] at h; cases h
    | some e1 =>
      cases q2 : toPyL ds with
      | none => rw [q1, q2] at h; cases h
      | some e2 => rw [q1, q2] at h; cases h; exact .cons (dp_of r q1) (dpL_of l q2)
end
theorem dpU_of {G : Cn} {p : Pt} {v : V} {u : U} {e : PyData} (st : StR G p) (r : Ru G p v u) (h : uPy u p.S = some e) : Dp G.K p.H v e := by
  have via : ∀ xs, asL u p.S = some xs → (toPyL xs).map PyData.list = some e → Dp G.K p.H v e := fun xs h1 h2 => by
    obtain ⟨a, vs, rfl, ha, hl⟩ := rd_L st r h1
    cases q : toPyL xs with
    | none => rw [q] at h2; cases h2
    | some es => rw [q] at h2; cases h2; exact .lst (SqL.of ha) (dpL_of hl q)
  cases r with
  | v r => exact dp_of r h
  | @b a n h1 h2 =>
    have h : (match asL (.b n) p.S with | some xs => (toPyL xs).map PyData.list | none => none) = some e := h
    cases q : asL (.b n) p.S with
    | none => rw [q] at h; cases h
    | some xs => rw [q] at h; exact via xs q h
  | @o a vs ds h1 h2 h3 => exact via ds rfl h
def dEq (neg : Bool) : OD2 := fun x y S => match x, y with
  | .v (.str a), .v (.str b) => some (.bl (neg != (a == b)))
  | x, y => match uPy x S, uPy y S with
    | some d, some e => if SeqAt.shaped d = true ∧ SeqAt.shaped e = true then some (.bl (neg != PyData.eqv d e)) else none
    | _, _ => none
section
variable {X : Cx} {cm : Nat → Addr} {k : Nat}
theorem o_eq (hr : Room k X.A) : OpR X (compareOp .Eq) (rO (Gx X cm) (dEq false)) := by
  intro pins s σ H x y v u Q I rx ry ⟨p, dx, dy, d, hH, sp, r1, r2, ho, k⟩
  subst hH
  unfold dEq at ho
  split at ho
  · rename_i a b
    cases ho
    cases r1 with
    | v r1 => cases r1; cases r2 with
      | v r2 =>
        cases r2
        refine op_eq pins s σ _ _ _ v u Q I rx ry ⟨rfl, k p _ rfl sp (Ext.refl p) ?_⟩
        rw [dec_str, Bool.false_bne]
        exact .bl _
  · split at ho
    · rename_i d1 d2 h1 h2
      split at ho
      · rename_i hs
        cases ho
        exact op_eqD hr.units pins s σ _ _ _ v u Q I rx ry ⟨d1, d2, dpU_of sp r1 h1, dpU_of sp r2 h2, hs.1, hs.2, k p _ rfl sp (Ext.refl p) (by rw [Bool.false_bne]; exact .bl _)⟩
      · cases ho
    · cases ho
theorem o_ne (hr : Room k X.A) : OpR X (compareOp .NotEq) (rO (Gx X cm) (dEq true)) := by
  intro pins s σ H x y v u Q I rx ry ⟨p, dx, dy, d, hH, sp, r1, r2, ho, k⟩
  subst hH
  unfold dEq at ho
  split at ho
  · rename_i a b
    cases ho
    cases r1 with
    | v r1 => cases r1; cases r2 with
      | v r2 =>
        cases r2
        refine op_ne pins s σ _ _ _ v u Q I rx ry ⟨rfl, k p _ rfl sp (Ext.refl p) ?_⟩
        rw [dec_str, Bool.true_bne]
        exact .bl _
  · split at ho
    · rename_i d1 d2 h1 h2
      split at ho
      · rename_i hs
        cases ho
        exact op_neD hr.units pins s σ _ _ _ v u Q I rx ry ⟨d1, d2, dpU_of sp r1 h1, dpU_of sp r2 h2, hs.1, hs.2, k p _ rfl sp (Ext.refl p) (by rw [Bool.true_bne]; exact .bl _)⟩
      · cases ho
    · cases ho
end
end Rn
set_option Elab.async false
set_option linter.all false
set_option maxRecDepth 100000
set_option maxHeartbeats 4000000
namespace Rn
open PySem L2 PyProof.Rows

/-! ## subscripts, slices -/
def dIx : OD2 := fun x y S => match y with
  | .v (.int i) => match x with
    | .v (.str z) => if z.length ≤ sizeLine then (atI z.cps.toList i).map fun c => .str ⟨#[c]⟩ else none
    | x => match asQ x S with
      | some ds => atI ds i
      | none => none
  | _ => none
theorem RpL.at {G : Cn} {p : Pt} {vs : List V} {ds : List D} {i : Int} {d : D} (r : RpL G p vs ds) (h : atI ds i = some d) : ∃ v, atI vs i = some v ∧ Rp G p v d := by
  unfold atI at h ⊢
  rw [r.length]
  cases e : ixN ds.length i with
  | none => rw [e] at h; cases h
  | some j =>
    rw [e] at h
    exact r.get h
abbrev PR := U → Option Int → Option Int → List Box → Option D
def slS : PR := fun x lo hi _ => match x with
  | .v (.str z) => if z.length ≤ sizeLine then some (.str (cutS z lo hi)) else none
  | _ => none
def cutD (xs : List D) (lo hi : Option Int) : List D := (xs.drop (HT.sIx xs.length 0 lo)).take (HT.sIx xs.length xs.length hi - HT.sIx xs.length 0 lo)
def slT : PR := fun x lo hi _ => match x with
  | .v (.tup xs) => some (.tup (cutD xs lo hi))
  | _ => none
abbrev CP := Env → List Box → Res (Option Int)
def pNo : CP := fun _ S => .ok none S
def pIntR (u : U) (S : List Box) : Res (Option Int) := match u with
  | .v (.int i) => .ok (some i) S
  | _ => .no
def pSm (c : CE) : CP := fun ρ S => (c ρ S).bind pIntR
def cSl (r : PR) (c : CE) (lo hi : CP) : CE := fun ρ S => (c ρ S).bind fun x S1 => (lo ρ S1).bind fun l S2 => (hi ρ S2).bind fun h S3 => opt (r x l h S3) S3
/-- a part of a list: a new list -/
def cSlL (c : CE) (lo hi : CP) : CL := fun ρ S => (c ρ S).bind fun x S1 => (lo ρ S1).bind fun l S2 => (hi ρ S2).bind fun h S3 => match asQL x S3 with
  | some xs => .ok (cutD xs l h) S3
  | none => .no
where asQL (u : U) (S : List Box) : Option (List D) := match u with
  | .v (.con xs) => some xs
  | u => asL u S
def tO (G : Cn) (W : WX) (c : CP) : TO := fun σ H Q => ∃ (ρ : Env) (p : Pt) (x0 : Addr → Prop), p.H = H ∧ StR G p ∧ SlR G x0 p σ ρ ∧ RPost G p (WE W σ) (c ρ p.S) (fun o q => Q o q.H)
theorem po_imp {X : Cx} {e : Option Expr} {t t' : TO} (h : PO X e t) (k : ∀ σ H Q, t' σ H Q → t σ H Q) : PO X e t' := ⟨fun pins s σ H Q I q => h.run pins s σ H Q I (k σ H Q q)⟩
theorem RpL.cut {G : Cn} {p : Pt} {vs : List V} {ds : List D} (r : RpL G p vs ds) (lo hi : Option Int) : RpL G p (cutV vs lo hi) (cutD ds lo hi) := by
  unfold cutV cutD
  rw [r.length]
  exact (r.drop _).take _
def rS (G : Cn) (r : PR) : V → Option Int → Option Int → Hp → VK → Prop := fun x lo hi H Q => ∃ (p : Pt) (dx : U) (d : D), p.H = H ∧ StR G p ∧ Ru G p x dx ∧ r dx lo hi p.S = some d ∧ ∀ (q : Pt) (v : V), q.S = p.S → StR G q → Ext p q → Rp G q v d → Q v q.H

section
variable {X : Cx} {cm : Nat → Addr} {W : WX} {pos p2 : Pos} {e a b : Expr} {lo hi : Option Expr} {ca cb : CE} {cl ch : CP} {r : PR}
theorem x_list : IxR X (fun x y H Q => ∃ (p : Pt) (dx : U) (ds : List D) (i : Int) (d : D), p.H = H ∧ StR (Gx X cm) p ∧ Ru (Gx X cm) p x dx ∧ y = .int i ∧ asQ dx p.S = some ds ∧ atI ds i = some d ∧ ∀ (q : Pt) (v : V), q.S = p.S → StR (Gx X cm) q → Ext p q → Rp (Gx X cm) q v d → Q v q.H) := by
  intro value slice pins s σ H x y v u Q I rx ry ⟨p, dx, ds, i, d, hH, sp, r1, hy, hq, ha, k⟩ hs
  subst hH hy
  obtain ⟨a, vs, rfl, h1, l⟩ := rd_Q sp r1 hq
  obtain ⟨z, hz, rz⟩ := l.at ha
  have k2 := k p z rfl sp (Ext.refl p) rz
  rcases h1 with h1 | h1
  · exact ix_list value slice pins s σ _ _ _ v u Q I rx ry ⟨a, vs, i, z, rfl, rfl, h1, hz, k2⟩ hs
  · exact ix_tup value slice pins s σ _ _ _ v u Q I rx ry ⟨a, vs, i, z, rfl, rfl, h1, hz, k2⟩ hs
theorem x_any : IxR X (rO (Gx X cm) dIx) := by
  intro value slice pins s σ H x y v u Q I rx ry ⟨p, dx, dy, d, hH, sp, r1, r2, ho, k⟩ hs
  unfold dIx at ho
  split at ho
  · rename_i i
    have hy : y = .int i := by
      cases r2 with
      | v r2 => cases r2; rfl
    split at ho
    · rename_i z
      split at ho
      · rename_i hz
        cases e : atI z.cps.toList i with
        | none => rw [e] at ho; cases ho
        | some c =>
          rw [e] at ho
          cases ho
          subst hH hy
          cases r1 with
          | v r1 => cases r1; exact ix_str value slice pins s σ _ _ _ v u Q I rx ry ⟨z, i, c, rfl, rfl, hz, e, k p _ rfl sp (Ext.refl p) (.str _)⟩ hs
      · cases ho
    · split at ho
      · rename_i ds hq
        exact x_list (cm := cm) value slice pins s σ _ _ _ v u Q I rx ry ⟨p, dx, ds, i, d, hH, sp, r1, hy, hq, ho, k⟩ hs
      · cases ho
  · cases ho
theorem e_ix (ha : PE X a (tV (Gx X cm) W ca)) (hb : PE X b (tV (Gx X cm) W cb)) (hs : PlainIx b) : PE X (.Subscript a b pos) (tV (Gx X cm) W (cBin dIx ca cb)) := pe_imp (pe_ix x_any ha hb hs) fun _ _ _ => bin_imp
theorem p_no : PO X none (tO (Gx X cm) W pNo) := by
  refine po_imp po_none fun σ H Q ⟨ρ, p, x0, hH, st, sl, k⟩ => ?_
  have k2 := RPost.here st k
  rw [hH] at k2
  exact k2
theorem p_sm (h : PE X e (tV (Gx X cm) W ca)) : PO X (some e) (tO (Gx X cm) W (pSm ca)) := by
  refine po_imp (po_some h) fun σ H Q ⟨ρ, p, x0, hH, st, sl, k⟩ => ?_
  refine ⟨ρ, p, x0, hH, st, sl, (RPost.bind k).mono fun x q sq eq k2 v rv => ?_⟩
  unfold pIntR at k2
  split at k2
  · rename_i i
    cases rv with
    | v rv => cases rv; exact ⟨i, rfl, RPost.here sq k2⟩
  · exact k2.elim
theorem e_sl (hr : L2.SlR X (rS (Gx X cm) r)) (he : PE X e (tV (Gx X cm) W ca)) (hl : PO X lo (tO (Gx X cm) W cl)) (hu : PO X hi (tO (Gx X cm) W ch)) : PE X (.Subscript e (.Slice lo hi none p2) pos) (tV (Gx X cm) W (cSl r ca cl ch)) := by
  refine pe_imp (pe_slice hr he hl hu) fun σ H Q ⟨ρ, p, x0, hH, st, sl, k⟩ => ?_
  refine ⟨ρ, p, x0, hH, st, sl, (RPost.bind k).mono fun x q sq eq k2 v rv => ?_⟩
  refine ⟨ρ, q, x0, rfl, sq, sl.ext eq, (RPost.bind k2).mono fun l q1 sq1 eq1 k3 => ?_⟩
  refine ⟨ρ, q1, x0, rfl, sq1, (sl.ext eq).ext eq1, (RPost.bind k3).mono fun h q2 sq2 eq2 k4 => ?_⟩
  cases eo : r x l h q2.S with
  | none => rw [eo] at k4; exact k4.elim
  | some d =>
    rw [eo] at k4
    exact ⟨q2, x, d, rfl, sq2, (rv.ext eq1).ext eq2, eo, fun u z h1 h2 h3 h4 => k4 u h1 h2 h3 z (.v h4)⟩
theorem l_str : L2.SlR X (rS (Gx X cm) slS) := by
  intro pins s σ H x v vl vu lo hi sl Q I rx hs pl pu ⟨p, dx, d, hH, sp, r1, ho, k⟩
  subst hH
  unfold slS at ho
  split at ho
  · rename_i z
    split at ho
    · rename_i hz
      cases ho
      cases r1 with
      | v r1 => cases r1; exact sl_str pins s σ _ _ v vl vu lo hi sl Q I rx hs pl pu ⟨z, rfl, hz, k p _ rfl sp (Ext.refl p) (.str _)⟩
    · cases ho
  · cases ho
theorem l_tup : L2.SlR X (rS (Gx X cm) slT) := by
  intro pins s σ H x v vl vu lo hi sl Q I rx hs pl pu ⟨p, dx, d, hH, sp, r1, ho, k⟩
  subst hH
  unfold slT at ho
  split at ho
  · rename_i xs
    cases ho
    obtain ⟨a, vs, rfl, h1, l⟩ := rd_T r1
    refine sl_tupA pins s σ _ _ v vl vu lo hi sl Q I rx hs pl pu ⟨a, vs, rfl, h1, fun hw => ?_, fun hw n hn => ?_⟩
    · have e : cutD xs lo hi = xs := by
        rw [l.length] at hw
        unfold cutD
        rw [hw.1, hw.2, List.drop_zero, Nat.sub_zero, List.take_length]
      rw [e] at k
      cases r1 with
      | v r1 => exact k p _ rfl sp (Ext.refl p) r1
    · obtain ⟨s1, e1, n1⟩ := sp.new (.tup (cutV vs lo hi)) hn
      exact k (p.new n (.tup (cutV vs lo hi))) (.ref n) rfl s1 e1 (.tup (.inl upd_same) n1 ((l.cut lo hi).ext e1.toExtS))
  · cases ho
end

/-! ## new lists by operators and calls -/
def cCat (a b : CE) : CL := fun ρ S => (a ρ S).bind fun x S1 => (b ρ S1).bind fun y S2 => match asL x S2, asL y S2 with
  | some xs, some ys => if xs.length + ys.length ≤ sizeLine then .ok (xs ++ ys) S2 else .no
  | _, _ => .no
def cRepL (a b : CE) : CL := fun ρ S => (a ρ S).bind fun x S1 => (b ρ S1).bind fun y S2 => match asL x S2, y with
  | some xs, .v (.int k) => if -(2 ^ 63) ≤ k ∧ k < 2 ^ 63 ∧ xs.length * k.toNat ≤ sizeLine then .ok (List.replicate k.toNat xs).flatten S2 else .no
  | _, _ => .no
theorem RpL.flat {G : Cn} {p : Pt} {vs : List V} {ds : List D} (r : RpL G p vs ds) : ∀ n : Nat, RpL G p (List.replicate n vs).flatten (List.replicate n ds).flatten
  | 0 => .nil
  | n + 1 => by
    rw [List.replicate_succ, List.replicate_succ, List.flatten_cons, List.flatten_cons]
    exact r.app (RpL.flat r n)
/-! ## texts -/
def strsD : List D → Option (List Str)
  | [] => some []
  | .str x :: r => (strsD r).map fun xs => x :: xs
  | _ :: _ => none
def dJoin (a : Str) (y : U) (S : List Box) : Option D := match (asQ y S).bind strsD with
  | some ys => if (ys.map (·.length)).sum + ys.length * a.length ≤ 16777216 then some (.str (Txt.join a ys)) else none
  | none => none
def cJoin (ca cb : CE) : CE := fun ρ S => (ca ρ S).bind fun x S1 => match x with
  | .v (.str a) => (cb ρ S1).bind fun y S2 => opt (dJoin a y S2) S2
  | _ => .no
def dRepS : OD2 := fun x y _ => match x, y with
  | .v (.str a), .v (.int n) => if 2 ≤ n ∧ n ≤ 100000 ∧ 0 < a.length ∧ a.length ≤ 100 then some (.str ⟨(List.replicate n.toNat a.cps.toList).flatten.toArray⟩) else none
  | _, _ => none
theorem foldl_cat (a : Array Nat) (n : Nat) : ((List.replicate n a).foldl (· ++ ·) #[] : Array Nat) = (List.replicate n a.toList).flatten.toArray := by
  have k : ∀ (m : Nat) (z : Array Nat), (List.replicate m a).foldl (· ++ ·) z = z ++ (List.replicate m a.toList).flatten.toArray := by
    intro m
    induction m with
    | zero => intro z; simp
    | succ m ih =>
      intro z
      rw [List.replicate_succ, List.foldl_cons, ih, List.replicate_succ, List.flatten_cons]
      apply Array.ext'
      simp
  rw [k n #[]]
  simp
theorem rep_len {α : Type _} (l : List α) : ∀ n : Nat, (List.replicate n l).flatten.length = n * l.length
  | 0 => by rw [Nat.zero_mul]; rfl
  | n + 1 => by rw [List.replicate_succ, List.flatten_cons, List.length_append, rep_len l n, Nat.succ_mul, Nat.add_comm]
theorem strs_rel {G : Cn} {p : Pt} : ∀ {vs : List V} {ds : List D} {ys : List Str}, RpL G p vs ds → strsD ds = some ys → vs = ys.map V.str
  | _, _, ys, .nil, h => by
    cases h
    rfl
  | _, _, ys, .cons (d := d) (ds := ds) r l, h => by
    cases d with
    | str x =>
      have h : (strsD ds).map (fun xs => x :: xs) = some ys := h
      cases e : strsD ds with
      | none => rw [e] at h; cases h
      | some zs =>
        rw [e] at h
        cases h
        cases r
        rw [strs_rel l e]
        rfl
    | _ => cases h

/-! ## calls of built-ins by values -/
abbrev OF := List U → List Box → Option D
def rC (G : Cn) (o : OF) : List V → Hp → VK → Prop := fun vs H Q => ∃ (us : List U) (p : Pt) (d : D), p.H = H ∧ StR G p ∧ RuL G p vs us ∧ o us p.S = some d ∧ ∀ (q : Pt) (v : V), q.S = p.S → StR G q → Ext p q → Rp G q v d → Q v q.H
def cFun (o : OF) (cs : List CE) : CE := fun ρ S => (evL cs ρ S).bind fun us S1 => opt (o us S1) S1
section
variable {X : Cx} {cm : Nat → Addr} {W : WX} {pos p apos : Pos} {e a b ob : Expr} {es : List Expr} {ca cb : CE} {cs : List CE} {x : Str} {id T : String} {o : OF}
theorem f_cat (ha : PE X a (tV (Gx X cm) W ca)) (hb : PE X b (tV (Gx X cm) W cb)) : PE X (.BinOp a .Add b pos) (tF (Gx X cm) W (cCat ca cb)) := by
  refine pe_imp (pe_op op_cat ha hb) fun σ H Q ⟨ρ, p, x0, hH, st, sl, k⟩ => ?_
  refine ⟨ρ, p, x0, hH, st, sl, (RPost.bind k).mono fun x q sq eq k2 v rv => ?_⟩
  refine ⟨ρ, q, x0, rfl, sq, sl.ext eq, (RPost.bind k2).mono fun y t st2 et k3 w rw' => ?_⟩
  split at k3
  · rename_i xs ys h1 h2
    split at k3
    · rename_i hz
      obtain ⟨a1, vs, rfl, e1, l1⟩ := rd_L st2 (rv.ext et) h1
      obtain ⟨a2, ws, rfl, e2, l2⟩ := rd_L st2 rw' h2
      exact ⟨a1, a2, vs, ws, rfl, rfl, e1, e2, by rw [l1.length, l2.length]; exact hz, fun n hn => RPost.here st2 k3 n _ hn (l1.app l2)⟩
    · exact k3.elim
  · exact k3.elim
theorem f_rep (ha : PE X a (tV (Gx X cm) W ca)) (hb : PE X b (tV (Gx X cm) W cb)) : PE X (.BinOp a .Mult b pos) (tF (Gx X cm) W (cRepL ca cb)) := by
  refine pe_imp (pe_op op_rep ha hb) fun σ H Q ⟨ρ, p, x0, hH, st, sl, k⟩ => ?_
  refine ⟨ρ, p, x0, hH, st, sl, (RPost.bind k).mono fun x q sq eq k2 v rv => ?_⟩
  refine ⟨ρ, q, x0, rfl, sq, sl.ext eq, (RPost.bind k2).mono fun y t st2 et k3 w rw' => ?_⟩
  split at k3
  · rename_i xs n h1
    split at k3
    · rename_i hz
      obtain ⟨a1, vs, rfl, e1, l1⟩ := rd_L st2 (rv.ext et) h1
      cases rw' with
      | v rw' => cases rw'; exact ⟨a1, n, vs, rfl, rfl, e1, hz.1, hz.2.1, by rw [l1.length]; exact hz.2.2, fun m hm => RPost.here st2 k3 m _ hm (l1.flat _)⟩
    · exact k3.elim
  · exact k3.elim
theorem e_join (ho : PE X ob (tV (Gx X cm) W ca)) (he : PE X e (tV (Gx X cm) W cb)) (hs : starEach [e] X.env = [(false, eval e X.env)] := by rfl) (hbase : attributeBase ob "join" X.env (eval ob X.env) = eval ob X.env := by rfl) (hline : (apos.endLine == pos.line) = true := by rfl) :
    PE X (.Call (.Attribute ob "join" apos) [e] [] pos) (tV (Gx X cm) W (cJoin ca cb)) := by
  refine pe_imp (pe_join ho he hs hbase hline) fun σ H Q ⟨ρ, p, x0, hH, st, sl, k⟩ => ?_
  refine ⟨ρ, p, x0, hH, st, sl, (RPost.bind k).mono fun x q sq eq k2 v rv => ?_⟩
  split at k2
  · rename_i a
    cases rv with
    | v rv =>
      cases rv
      refine ⟨⟨a, rfl⟩, ρ, q, x0, rfl, sq, sl.ext eq, (RPost.bind k2).mono fun y t st2 et k3 w rw' => ?_⟩
      cases eo : dJoin a y t.S with
      | none => rw [eo] at k3; exact k3.elim
      | some d =>
        rw [eo] at k3
        unfold dJoin at eo
        cases eq2 : asQ y t.S with
        | none => rw [eq2] at eo; cases eo
        | some ds =>
          rw [eq2, Option.bind_some] at eo
          cases eys : strsD ds with
          | none => rw [eys] at eo; cases eo
          | some ys =>
            rw [eys] at eo
            dsimp only at eo
            split at eo
            · rename_i hz
              cases eo
              obtain ⟨b, vs, rfl, h1, l⟩ := rd_Q st2 rw' eq2
              have ev := strs_rel l eys
              rw [ev] at h1
              exact ⟨a, b, ys, rfl, rfl, h1, hz, RPost.here st2 k3 _ (.v (.str _))⟩
            · cases eo
  · exact k2.elim
theorem o_repS : OpR X (binaryOp .Mult) (rO (Gx X cm) dRepS) := by
  intro pins s σ H x y v u Q I rx ry ⟨p, dx, dy, d, hH, sp, r1, r2, ho, k⟩
  subst hH
  unfold dRepS at ho
  split at ho
  · rename_i a n
    split at ho
    · rename_i hz
      cases ho
      cases r1 with
      | v r1 => cases r1; cases r2 with
        | v r2 =>
          cases r2
          obtain ⟨t, rfl⟩ := rx
          obtain ⟨t', rfl⟩ := ry
          have k2 := k p _ rfl sp (Ext.refl p) (.str _)
          have e1 : ¬ n < 1 := by omega
          have e2 : (n == 1 || a.length == 0) = false := by
            rw [Bool.or_eq_false_iff]
            exact ⟨beq_eq_false_iff_ne.mpr (by omega), beq_eq_false_iff_ne.mpr (by omega)⟩
          have e3 : a.length * n.toNat ≤ 100 * 100000 := Nat.mul_le_mul hz.2.2.2 (by omega)
          have e4 : a.length * n.toNat ≤ sizeLine := Nat.le_trans e3 (by decide)
          refine PySem.P.mul_str ?_ (fun _ _ => ?_) (fun _ _ => ?_) ?_
          · rw [Bool.or_eq_false_iff]
            exact ⟨decide_eq_false (by omega), decide_eq_false (by omega)⟩
          · have : (100 : Int) ≤ (2 ^ 63 - 1) / n := (Int.le_ediv_iff_mul_le (by omega)).mpr (by omega)
            omega
          · exact decide_eq_false (by omega)
          · rw [if_neg e1, e2, if_neg Bool.false_ne_true]
            have e5 : ((List.replicate n.toNat a.cps).foldl (· ++ ·) #[] : Array Nat) = (List.replicate n.toNat a.cps.toList).flatten.toArray := foldl_cat a.cps n.toNat
            have e6 : (⟨(List.replicate n.toNat a.cps).foldl (· ++ ·) #[]⟩ : Str) = ⟨(List.replicate n.toNat a.cps.toList).flatten.toArray⟩ := congrArg Str.mk e5
            refine ⟨?_, ?_⟩
            · rw [e6]
              show (List.replicate n.toNat a.cps.toList).flatten.toArray.size ≤ sizeLine
              rw [List.size_toArray, rep_len, Nat.mul_comm]
              exact e4
            · rw [e6]
              exact ⟨.str _, p.H, I.tok _, ⟨_, rfl⟩, k2⟩
    · cases ho
  · cases ho
theorem e_callB (hc : CallR X (.builtin id) (rC (Gx X cm) o)) (hg : Gl X x) (hm : X.mg x = none) (hv : bootBuiltins x = some (.builtin id)) (ha : PA X (e :: es) (tVa (Gx X cm) W (evL cs))) (hn : x ≠ "__name__" := by decide) (hdb : (x == ("__debug__" : Str)) = false := by decide)
    (he : starEach (e :: es) X.env = (false, eval e X.env) :: starEach es X.env := by rfl) (hpl : (backTo pos (starEach es X.env)).any (·.1) = false := by rfl) : PE X (.Call (.Name x p) (e :: es) [] pos) (tV (Gx X cm) W (cFun o cs)) := by
  refine pe_imp (pe_callB hc hg hm hv ha hn hdb he hpl) fun σ H Q ⟨ρ, p, x0, hH, st, sl, k⟩ => ?_
  refine ⟨ρ, p, x0, hH, st, sl, (RPost.bind k).mono fun us q sq eq k2 vs rv => ?_⟩
  cases eo : o us q.S with
  | none => rw [eo] at k2; exact k2.elim
  | some d =>
    rw [eo] at k2
    exact ⟨us, q, d, rfl, sq, rv, eo, fun u z h1 h2 h3 h4 => k2 u h1 h2 h3 z (.v h4)⟩
theorem e_callT (hc : CallR X (.type T) (rC (Gx X cm) o)) (hg : Gl X x) (hm : X.mg x = none) (hv : bootBuiltins x = some (.type T)) (ha : PA X (e :: es) (tVa (Gx X cm) W (evL cs))) (hn : x ≠ "__name__" := by decide) (hdb : (x == ("__debug__" : Str)) = false := by decide)
    (he : starEach (e :: es) X.env = (false, eval e X.env) :: starEach es X.env := by rfl) (hpl : (backTo pos (starEach es X.env)).any (·.1) = false := by rfl) : PE X (.Call (.Name x p) (e :: es) [] pos) (tV (Gx X cm) W (cFun o cs)) := by
  refine pe_imp (pe_callTy hc hg hm hv ha hn hdb he hpl) fun σ H Q ⟨ρ, p, x0, hH, st, sl, k⟩ => ?_
  refine ⟨ρ, p, x0, hH, st, sl, (RPost.bind k).mono fun us q sq eq k2 vs rv => ?_⟩
  cases eo : o us q.S with
  | none => rw [eo] at k2; exact k2.elim
  | some d =>
    rw [eo] at k2
    exact ⟨us, q, d, rfl, sq, rv, eo, fun u z h1 h2 h3 h4 => k2 u h1 h2 h3 z (.v h4)⟩
end
end Rn
set_option Elab.async false
set_option linter.all false
set_option maxRecDepth 100000
set_option maxHeartbeats 4000000
namespace Rn
open PySem L2 PyProof.Rows

/-! ## calls of built-ins by values -/
def fLen : OF := fun us S => match us with
  | [.v (.str z)] => if z.length ≤ sizeLine then some (.int z.length) else none
  | [u] => (asQ u S).map fun ds => .int ds.length
  | _ => none
def fAbs : OF := fun us _ => match us with
  | [.v (.int i)] => some (.int (if i < 0 then -i else i))
  | _ => none
def fInt : OF := fun us _ => match us with
  | [.v (.int i)] => some (.int i)
  | [.v (.bl k)] => some (.int (if k then 1 else 0))
  | [.v (.str a)] => if a.length ≤ 640 then (PySem.intText? a).map .int else none
  | _ => none
def fStr : OF := fun us _ => match us with
  | [.v (.int i)] => if i.natAbs < 10 ^ 4300 then some (.str (toString i)) else none
  | _ => none
def tyD : D → Option String
  | .non => some "NoneType"
  | .bl _ => some "bool"
  | .int _ => some "int"
  | .str _ => some "str"
  | .lst _ => some "list"
  | .con _ => some "list"
  | .tup _ => some "tuple"
  | _ => none
def tyU (u : U) (S : List Box) : Option String := match u with
  | .v d => tyD d
  | u => (asL u S).map fun _ => "list"
def fIsi : OF := fun us S => match us with
  | [u, .v (.ty T)] => (tyU u S).bind fun t => (kitB t T).map .bl
  | _ => none
def blsD : List D → Option (List Bool)
  | [] => some []
  | .bl b :: r => (blsD r).map fun bs => b :: bs
  | _ :: _ => none
def fAll : OF := fun us S => match us with
  | [u] => (asL u S).bind fun ds => (blsD ds).map fun bs => .bl (bs.all id)
  | _ => none
def fAny : OF := fun us S => match us with
  | [u] => (asL u S).bind fun ds => (blsD ds).map fun bs => .bl (bs.any id)
  | _ => none
def fTup : OF := fun us S => match us with
  | [.v (.tup ds)] => some (.tup ds)
  | [u] => (asL u S).map .tup
  | _ => none
def isRef : PyData → Bool
  | .list _ => true
  | .tuple _ => true
  | _ => false
def fRepr : OF := fun us S => match us with
  | [u] => (uPy u S).bind fun e => if e.showable = true ∧ (isRef e = true ∧ e.depth ≤ 1000) ∧ e.shown.length ≤ sizeLine then some (.str e.shown) else none
  | _ => none
theorem bls_rel {G : Cn} {p : Pt} : ∀ {vs : List V} {ds : List D} {ys : List Bool}, RpL G p vs ds → blsD ds = some ys → vs = ys.map V.bl
  | _, _, ys, .nil, h => by
    cases h
    rfl
  | _, _, ys, .cons (d := d) (ds := ds) r l, h => by
    cases d with
    | bl x =>
      have h : (blsD ds).map (fun xs => x :: xs) = some ys := h
      cases e : blsD ds with
      | none => rw [e] at h; cases h
      | some zs =>
        rw [e] at h
        cases h
        cases r
        rw [bls_rel l e]
        rfl
    | _ => cases h
theorem ty_rel {G : Cn} {p : Pt} {v : V} {d : D} {t : String} (r : Rp G p v d) (h : tyD d = some t) : TyX G.K p.H v (.type t) := by
  cases r with
  | non => cases h; exact .base .non
  | bl b => cases h; exact .base (.bl b)
  | int i => cases h; exact .base (.int i)
  | str x => cases h; exact .base (.str x)
  | lst a n l => cases h; exact .base (.lst a)
  | con a n l => cases h; obtain ⟨o, a⟩ := a; exact .base (.frz a)
  | conK a l => cases h; obtain ⟨o, its, n, a, c, _⟩ := a; exact .kList a c
  | tup a n l =>
    cases h
    rcases a with a | ⟨o, a⟩
    · exact .base (.tup a)
    · exact .fTuple a
  | tupK a l => cases h; obtain ⟨o, its, n, a, c, _⟩ := a; exact .kTuple a c
  | ty n => cases h
  | fn a => cases h
mutual
theorem noDict : ∀ {d : D} {e : PyData}, toPy d = some e → e.hasDict = false
  | .non, _, h => by cases h; rfl
  | .bl _, _, h => by cases h; rfl
  | .int _, _, h => by cases h; rfl
  | .str _, _, h => by cases h; rfl
  | .lst xs, e, h => by
    have h : (toPyL xs).map PyData.list = some e := h
    cases q : toPyL xs with
    | none => rw [q] at h; cases h
    | some es => rw [q] at h; cases h; exact noDictL q
  | .con xs, e, h => by
    have h : (toPyL xs).map PyData.list = some e := h
    cases q : toPyL xs with
    | none => rw [q] at h; cases h
    | some es => rw [q] at h; cases h; exact noDictL q
  | .tup xs, e, h => by
    have h : (toPyL xs).map PyData.tuple = some e := h
    cases q : toPyL xs with
    | none => rw [q] at h; cases h
    | some es => rw [q] at h; cases h; exact noDictL q
  | .ty _, _, h => by cases h
  | .fn _, _, h => by cases h
theorem noDictL : ∀ {ds : List D} {es : List PyData}, toPyL ds = some es → PyData.hasDictAll es = false
  | [], _, h => by cases h; rfl
  | d :: ds, es, h => by
    have h : (match toPy d, toPyL ds with | some e, some es => some (e :: es) | _, _ => none) = some es := h
    cases q1 : toPy d with
    | none => rw [q1] at h; cases h
    | some e1 =>
      cases q2 : toPyL ds with
      | none => rw [q1, q2] at h; cases h
      | some e2 =>
        rw [q1, q2] at h; cases h
        show (e1.hasDict || PyData.hasDictAll e2) = false
        rw [noDict q1, noDictL q2]; rfl
end
theorem noDictU {u : U} {S : List Box} {e : PyData} (h : uPy u S = some e) : e.hasDict = false := by
  have via : ∀ xs, (toPyL xs).map PyData.list = some e → e.hasDict = false := fun xs h2 => by
    cases q : toPyL xs with
    | none => rw [q] at h2; cases h2
    | some es => rw [q] at h2; cases h2; exact noDictL q
  unfold uPy at h
  split at h
  · exact noDict h
  · split at h
    · exact via _ h
    · cases h
section
variable {X : Cx} {cm : Nat → Addr} {k : Nat}
theorem c_len : CallR X (.builtin "len") (rC (Gx X cm) fLen) := by
  intro pins s σ H vs us0 Q I rv ⟨us, p, d, hH, sp, rl, ho, k⟩
  subst hH
  have any : ∀ u v, Ru (Gx X cm) p v u → vs = [v] → ∀ n, (asQ u p.S).map (fun ds => D.int (List.length ds)) = some (.int n) → d = .int n → wpAny (model X.prog X.w) X.A (call (.builtin "len") us0) (EP X pins σ Q) X.xe s := fun u v r hv n h1 h2 => by
    subst hv h2
    cases e : asQ u p.S with
    | none => rw [e] at h1; cases h1
    | some ds =>
      rw [e] at h1
      have h1 : some (D.int (ds.length : Int)) = some (.int n) := h1
      injection h1 with h1; injection h1 with h1
      subst h1
      obtain ⟨a, ws, rfl, h, l⟩ := rd_Q sp r e
      refine call_len pins s σ _ _ _ Q I rv ⟨_, ds.length, rfl, ?_, k p _ rfl sp (Ext.refl p) (.int _)⟩
      rcases h with h | h
      · exact .inl ⟨ws, h, l.length.symm⟩
      · exact .inr ⟨ws, h, l.length.symm⟩
  unfold fLen at ho
  split at ho
  · split at ho
    · rename_i z hz
      cases ho
      cases rl with
      | cons r1 rl =>
        cases rl
        cases r1 with
        | v r1 => cases r1; exact call_len pins s σ _ _ _ Q I rv ⟨_, z.length, rfl, ⟨hz, rfl⟩, k p _ rfl sp (Ext.refl p) (.int _)⟩
    · cases ho
  · rename_i u hu
    cases rl with
    | cons r1 rl =>
      cases rl
      cases e : asQ u p.S with
      | none => rw [e] at ho; cases ho
      | some ds => rw [e] at ho; cases ho; exact any u _ r1 rfl _ (by rw [e]; rfl) rfl
  · cases ho
theorem c_abs : CallR X (.builtin "abs") (rC (Gx X cm) fAbs) := by
  intro pins s σ H vs us0 Q I rv ⟨us, p, d, hH, sp, rl, ho, k⟩
  subst hH
  unfold fAbs at ho
  split at ho
  · cases ho
    cases rl with
    | cons r1 rl =>
      cases rl
      cases r1 with
      | v r1 => cases r1; exact call_abs pins s σ _ _ _ Q I rv ⟨_, rfl, k p _ rfl sp (Ext.refl p) (.int _)⟩
  · cases ho
theorem c_int : CallR X (.type "int") (rC (Gx X cm) fInt) := by
  intro pins s σ H vs us0 Q I rv ⟨us, p, d, hH, sp, rl, ho, k⟩
  subst hH
  unfold fInt at ho
  split at ho
  · cases ho
    cases rl with
    | cons r1 rl =>
      cases rl
      cases r1 with
      | v r1 => cases r1; exact call_int1 pins s σ _ _ _ Q I rv (.inl ⟨_, rfl, k p _ rfl sp (Ext.refl p) (.int _)⟩)
  · cases ho
    cases rl with
    | cons r1 rl =>
      cases rl
      cases r1 with
      | v r1 => cases r1; exact call_int1 pins s σ _ _ _ Q I rv (.inr ⟨_, rfl, k p _ rfl sp (Ext.refl p) (.int _)⟩)
  · rename_i a
    split at ho
    · rename_i hz
      cases e : PySem.intText? a with
      | none => rw [e] at ho; cases ho
      | some n =>
        rw [e] at ho
        cases ho
        cases rl with
        | cons r1 rl =>
          cases rl
          cases r1 with
          | v r1 => cases r1; exact call_int_str pins s σ _ _ _ Q I rv ⟨_, n, rfl, e, hz, k p _ rfl sp (Ext.refl p) (.int _)⟩
    · cases ho
  · cases ho
theorem c_str (hc : X.calm = true) (hn : X.base.NoDigits) : CallR X (.type "str") (rC (Gx X cm) fStr) := by
  intro pins s σ H vs us0 Q I rv ⟨us, p, d, hH, sp, rl, ho, k⟩
  subst hH
  unfold fStr at ho
  split at ho
  · split at ho
    · rename_i i hz
      cases ho
      cases rl with
      | cons r1 rl =>
        cases rl
        cases r1 with
        | v r1 =>
          cases r1
          obtain ⟨u, rfl, t, rfl⟩ := vals1 rv
          have hn' : s.heap.NoDigits := hn.keeps I.bk
          exact str_of_int_or (I.ok.hd hc) hn' (fun _ => ⟨.str _, p.H, I.tok _, ⟨_, rfl⟩, k p _ rfl sp (Ext.refl p) (.str _)⟩) (fun h => absurd hz (Nat.not_lt.mpr h))
    · cases ho
  · cases ho
theorem c_isi : CallR X (.builtin "isinstance") (rC (Gx X cm) fIsi) := by
  intro pins s σ H vs us0 Q I rv ⟨us, p, d, hH, sp, rl, ho, k⟩
  subst hH
  unfold fIsi at ho
  split at ho
  · rename_i u T
    cases rl with
    | cons r1 rl =>
      cases rl with
      | cons r2 rl =>
        cases rl
        cases r2 with
        | v r2 =>
          cases r2
          have go : ∀ t, TyX X.K p.H _ (.type t) → (kitB t T).map D.bl = some d → wpAny (model X.prog X.w) X.A (call (.builtin "isinstance") us0) (EP X pins σ Q) X.xe s := fun t ht hk => by
            cases e : kitB t T with
            | none => rw [e] at hk; cases hk
            | some b =>
              rw [e] at hk
              cases hk
              exact call_isi pins s σ _ _ _ Q I rv ⟨_, _, _, _, b, rfl, .ty T, ht, kit_ty e, k p _ rfl sp (Ext.refl p) (.bl _)⟩
          have via : ∀ xs, asL u p.S = some xs → (kitB "list" T).map D.bl = some d → wpAny (model X.prog X.w) X.A (call (.builtin "isinstance") us0) (EP X pins σ Q) X.xe s := fun xs h1 h2 => by
            obtain ⟨a, ws, rfl, h, l⟩ := rd_L sp r1 h1
            rcases SqL.of h with h | h
            · rcases h with h | ⟨o, h⟩
              · exact go _ (.base (.lst h)) h2
              · exact go _ (.base (.frz h)) h2
            · obtain ⟨o, its, n, a1, c, _⟩ := h
              exact go _ (.kList a1 c) h2
          cases r1 with
          | v r1 =>
            rename_i dd
            have ho : (tyD dd).bind (fun t => (kitB t T).map D.bl) = some d := ho
            cases e : tyD dd with
            | none => rw [e] at ho; cases ho
            | some t => rw [e] at ho; exact go t (ty_rel r1 e) ho
          | @b a n h1 h2 =>
            have ho : ((asL (.b n) p.S).map fun _ => "list").bind (fun t => (kitB t T).map D.bl) = some d := ho
            cases e : asL (.b n) p.S with
            | none => rw [e] at ho; cases ho
            | some xs => rw [e] at ho; exact via xs e ho
          | @o a vs ds h1 h2 h3 => exact via ds rfl ho
  · cases ho
theorem c_all (hc : X.calm = true) : CallR X (.builtin "all") (rC (Gx X cm) fAll) := by
  intro pins s σ H vs us0 Q I rv ⟨us, p, d, hH, sp, rl, ho, k⟩
  subst hH
  unfold fAll at ho
  split at ho
  · rename_i u
    cases rl with
    | cons r1 rl =>
      cases rl
      cases e : asL u p.S with
      | none => rw [e] at ho; cases ho
      | some ds =>
        rw [e, Option.bind_some] at ho
        cases e2 : blsD ds with
        | none => rw [e2] at ho; cases ho
        | some bs =>
          rw [e2] at ho
          cases ho
          obtain ⟨a, ws, rfl, h, l⟩ := rd_L sp r1 e
          have ev := bls_rel l e2
          subst ev
          exact cr_all hc pins s σ _ _ _ Q I rv ⟨a, bs, rfl, SqL.of h, k p _ rfl sp (Ext.refl p) (.bl _)⟩
  · cases ho
theorem c_any (hc : X.calm = true) : CallR X (.builtin "any") (rC (Gx X cm) fAny) := by
  intro pins s σ H vs us0 Q I rv ⟨us, p, d, hH, sp, rl, ho, k⟩
  subst hH
  unfold fAny at ho
  split at ho
  · rename_i u
    cases rl with
    | cons r1 rl =>
      cases rl
      cases e : asL u p.S with
      | none => rw [e] at ho; cases ho
      | some ds =>
        rw [e, Option.bind_some] at ho
        cases e2 : blsD ds with
        | none => rw [e2] at ho; cases ho
        | some bs =>
          rw [e2] at ho
          cases ho
          obtain ⟨a, ws, rfl, h, l⟩ := rd_L sp r1 e
          have ev := bls_rel l e2
          subst ev
          exact cr_any hc pins s σ _ _ _ Q I rv ⟨a, bs, rfl, SqL.of h, k p _ rfl sp (Ext.refl p) (.bl _)⟩
  · cases ho
theorem c_tup : CallR X (.type "tuple") (rC (Gx X cm) fTup) := by
  intro pins s σ H vs us0 Q I rv ⟨us, p, d, hH, sp, rl, ho, k⟩
  subst hH
  unfold fTup at ho
  split at ho
  · cases ho
    cases rl with
    | cons r1 rl =>
      cases rl
      obtain ⟨a, ws, rfl, h, l⟩ := rd_T (by assumption)
      refine call_tuple_of pins s σ _ _ _ Q I rv ⟨a, ws, rfl, .inr ⟨h, ?_⟩⟩
      rename_i r1
      cases r1 with
      | v r1 => exact k p _ rfl sp (Ext.refl p) r1
  · rename_i u hu
    cases rl with
    | cons r1 rl =>
      cases rl
      cases e : asL u p.S with
      | none => rw [e] at ho; cases ho
      | some ds =>
        rw [e] at ho
        cases ho
        obtain ⟨a, ws, rfl, h, l⟩ := rd_L sp r1 e
        refine call_tuple_of pins s σ _ _ _ Q I rv ⟨a, ws, rfl, .inl ⟨SqL.of h, fun n hn => ?_⟩⟩
        obtain ⟨s1, e1, n1⟩ := sp.new (.tup ws) hn
        exact k (p.new n (.tup ws)) (.ref n) rfl s1 e1 (.tup (.inl upd_same) n1 (l.ext e1.toExtS))
  · cases ho
/-- where no repr runs -/
theorem c_repr (hr : Room k X.A) (hk : 60 ≤ k) (hg : X.A.guards = some []) : CallR X (.builtin "repr") (rC (Gx X cm) fRepr) := by
  intro pins s σ H vs us0 Q I rv ⟨us, p, d, hH, sp, rl, ho, kk⟩
  subst hH
  unfold fRepr at ho
  split at ho
  · rename_i u
    cases rl with
    | cons r1 rl =>
      cases rl
      cases e : uPy u p.S with
      | none => rw [e] at ho; cases ho
      | some e1 =>
        rw [e, Option.bind_some] at ho
        split at ho
        · rename_i hz
          cases ho
          obtain ⟨w, rfl, rw1⟩ := vals1 rv
          have D1 := dpU_of sp r1 e
          obtain ⟨as, r2⟩ := Dp.reads I e1 _ _ D1 rw1
          have hno := noDictU e
          have hun := hr.un
          have key : ∀ a, w = .ref a → wpAny (model X.prog X.w) X.A (call (.builtin "repr") [w]) (EP X pins σ Q) X.xe s := fun a ha => by
            subst ha
            exact PySem.repr_of_reads' r2 hz.1 (fun h => by rw [hno] at h; cases h) hg (by omega) (fun _ _ h => h) (fun h' u tk hk2 => ⟨.str _, p.H, I.kept hk2, ⟨_, rfl⟩, kk p _ rfl sp (Ext.refl p) (.str _)⟩) hz.2.2
          cases D1 with
          | lst h1 h2 => cases rw1; exact key _ rfl
          | tup h1 h2 => cases rw1; exact key _ rfl
          | _ => exact absurd hz.2.1.1 Bool.false_ne_true
        · cases ho
  · cases ho
end
end Rn
set_option Elab.async false
set_option linter.all false
set_option maxRecDepth 100000
set_option maxHeartbeats 4000000
namespace Rn
open PySem L2 PyProof.Rows

/-! ## instances -/
def putU (f : Str) (d : U) : List (Str × U) → List (Str × U)
  | [] => [(f, d)]
  | (g, x) :: r => if g = f then (g, d) :: r else (g, x) :: putU f d r
section
variable {G : Cn} {p q : Pt}
theorem FRel.length : ∀ {vs : List (Str × V)} {ds : List (Str × U)}, FRel G p vs ds → vs.length = ds.length
  | _, _, .nil => rfl
  | _, _, .cons _ _ t => by rw [List.length_cons, List.length_cons, t.length]
theorem FRel.look {f : Str} : ∀ {vs : List (Str × V)} {ds : List (Str × U)}, FRel G p vs ds → (ds.lookup f = none ∧ vs.lookup f = none) ∨ ∃ v d, ds.lookup f = some d ∧ vs.lookup f = some v ∧ notO d = true ∧ Ru G p v d
  | _, _, .nil => .inl ⟨rfl, rfl⟩
  | _, _, .cons (f := g) n h t => by
    by_cases z : f = g
    · have b : (f == g) = true := beq_iff_eq.mpr z
      exact .inr ⟨_, _, by simp only [List.lookup, b], by simp only [List.lookup, b], n, h⟩
    · have b : (f == g) = false := beq_eq_false_iff_ne.mpr z
      simp only [List.lookup, b]
      exact FRel.look t
theorem FRel.put {f : Str} {v : V} {d : U} (n : notO d = true) (h : Ru G p v d) : ∀ {vs : List (Str × V)} {ds : List (Str × U)}, FRel G p vs ds → FRel G p (putF f v vs) (putU f d ds)
  | _, _, .nil => .cons n h .nil
  | _, _, .cons (f := g) n1 h1 t => by
    unfold putF putU
    by_cases z : g = f
    · rw [if_pos z, if_pos z]; exact .cons n h t
    · rw [if_neg z, if_neg z]; exact .cons n1 h1 (FRel.put n h t)
end
/-- the box of an instance of the class c -/
def insOf (c : Nat) (u : U) (S : List Box) : Option (Nat × List (Str × U)) := match u with
  | .b n => match S[n]? with
    | some (.ins c' fs) => if c' = c then some (n, fs) else none
    | _ => none
  | _ => none
theorem ins_rd {G : Cn} {p : Pt} {c n : Nat} {u : U} {v : V} {fs : List (Str × U)} (st : StR G p) (r : Ru G p v u) (h : insOf c u p.S = some (n, fs)) :
    u = .b n ∧ v = .ref (p.m n) ∧ p.S[n]? = some (.ins c fs) ∧ ∃ dx vfs, p.H (p.m n) = some (.ins (G.cm c) dx vfs) ∧ FRel G p vfs fs := by
  unfold insOf at h
  split at h
  · rename_i k
    split at h
    · rename_i c' fs' hs
      split at h
      · rename_i hc
        cases h
        subst hc
        cases r with
        | b h1 h2 =>
          subst h2
          exact ⟨rfl, rfl, hs, st.ok n _ hs⟩
      · cases h
    · cases h
  · cases h
def fldR (c : Nat) (f : Str) (u : U) (S : List Box) : Res U := match insOf c u S with
  | some (_, fs) => match fs.lookup f with
    | some d => .ok d S
    | none => .no
  | none => .no
def cFld (c : Nat) (f : Str) (ca : CE) : CE := fun ρ S => (ca ρ S).bind (fldR c f)
def setF (c : Nat) (f : Str) (u d : U) (ρ : Env) (S : List Box) : Rs := match insOf c u S with
  | some (n, fs) => if fs.length < 1000 ∧ notO d = true then .nx ρ (S.set n (.ins c (putU f d fs))) else .no
  | none => .no
/-- o.f = e -/
def sFldS (c : Nat) (f : Str) (co ce : CE) : CS := fun ρ S => (ce ρ S).st ρ fun d S1 => (co ρ S1).st ρ fun u S2 => setF c f u d ρ S2
def addF (c : Nat) (f : Str) (u x y : U) (ρ : Env) (S : List Box) : Rs := match x, y with
  | .v (.int i), .v (.int j) => setF c f u (.v (.int (i + j))) ρ S
  | _, _ => .no
/-- o.f += e -/
def sFldI (c : Nat) (f : Str) (co ce : CE) : CS := fun ρ S => (co ρ S).st ρ fun u S1 => (fldR c f u S1).st ρ fun x S2 => (ce ρ S2).st ρ fun y S3 => addF c f u x y ρ S3
/-- o.m(..) -/
def cMeth (c : Nat) (m : Str) (F : CF) (co : CE) (cs : List CE) : CE := fun ρ S => (co ρ S).bind fun u S1 => match insOf c u S1 with
  | some (_, fs) => match fs.lookup m with
    | none => (evL cs ρ S1).bind fun us S2 => callR F (u :: us) S2
    | some _ => .no
  | none => .no
def mkR (n : Nat) (r : Res U) : Res U := match r with
  | .ok (.v .non) S => .ok (.b n) S
  | _ => .no
/-- C(..) -/
def cMake (c : Nat) (F : CF) (cs : List CE) : CE := fun ρ S => (evL cs ρ S).bind fun us S1 => mkR S1.length (callR F (.b S1.length :: us) (S1 ++ [.ins c []]))

section
variable {X : Cx} {cm : Nat → Addr} {W : WX} {k c : Nat} {g : Addr} {fd : FuncData} {ps : List Str} {F : CF} {x m f : Str} {p pos apos pos' tpos : Pos} {e o : Expr} {es : List Expr} {cs : List CE} {co ca : CE}
theorem e_fld (cl : Cls X.K (cm c)) (na : NoAttr X.K (cm c) f) (he : PE X o (tV (Gx X cm) W ca)) (hb : attributeBase o f X.env (eval o X.env) = eval o X.env := by rfl) : PE X (.Attribute o f pos) (tV (Gx X cm) W (cFld c f ca)) := by
  refine pe_imp (pe_fld he hb) fun σ H Q ⟨ρ, p, x0, hH, st, sl, k⟩ => ?_
  refine ⟨ρ, p, x0, hH, st, sl, (RPost.bind k).mono fun u q sq eq k2 v rv => ?_⟩
  unfold fldR at k2
  split at k2
  · rename_i n fs hi
    split at k2
    · rename_i d hd
      obtain ⟨rfl, rfl, hn, dx, vfs, h1, h2⟩ := ins_rd sq rv hi
      rcases h2.look (f := f) with ⟨h3, h4⟩ | ⟨v, d', h3, h4, h5, h6⟩
      · rw [hd] at h3; cases h3
      · rw [hd] at h3
        cases h3
        exact ⟨_, _, dx, vfs, v, rfl, h1, cl, na, h4, RPost.here sq k2 v h6⟩
    · exact k2.elim
  · exact k2.elim
theorem setF_step {x0 : Addr → Prop} {D : Ends} {σ : L2.St} {q : Pt} {ρ : Env} {u d : U} {v w : V} {f : Str} (sq : StR (Gx X cm) q) (sl : Rn.SlR (Gx X cm) x0 q σ ρ) (ru : Ru (Gx X cm) q v u) (rd : Ru (Gx X cm) q w d)
    (k : SPost (Gx X cm) x0 q W D (setF c f u d ρ q.S)) : ∃ a dx vfs, v = .ref a ∧ q.H a = some (.ins (cm c) dx vfs) ∧ vfs.length < 1000 ∧ D.nx σ (upd q.H a (.ins (cm c) dx (putF f w vfs))) := by
  unfold setF at k
  split at k
  · rename_i n fs hi
    split at k
    · rename_i hz
      obtain ⟨rfl, rfl, hn, dx, vfs, h1, h2⟩ := ins_rd sq ru hi
      refine ⟨_, dx, vfs, rfl, h1, by rw [h2.length]; exact hz.1, ?_⟩
      obtain ⟨s1, e1⟩ := sq.put (b' := .ins c (putU f d fs)) (o := .ins (cm c) dx (putF f w vfs)) hn rfl fun t et ht => ⟨dx, _, ht, (h2.put hz.2 rd).ext et.toExtS⟩
      exact k (q.put n (.ins (cm c) dx (putF f w vfs)) (.ins c (putU f d fs))) σ rfl s1 (sl.toS e1) (sl.ext e1)
    · exact k.elim
  · exact k.elim
theorem s_fld (cl : Cls X.K (cm c)) (na : NoAttr X.K (cm c) f) (ho : PE X o (tV (Gx X cm) W co)) (he : PE X e (tV (Gx X cm) W ca)) (hs : swapsWith e (some (.Attribute o f pos')) pos.line X.env = pure false := by rfl) :
    PS X (.Assign [.Attribute o f pos'] e pos) (tS (Gx X cm) W (sFldS c f co ca)) := by
  refine ps_imp (ps_fld ho he hs) fun D σ H ⟨ρ, p, x0, hH, s, sl, k⟩ => ?_
  refine ⟨ρ, p, x0, hH, s, sl, (SPost.st sl k).mono fun d q sq eq k2 w rw' => ?_⟩
  refine ⟨ρ, q, x0, rfl, sq, sl.ext eq, (SPost.st (sl.ext eq) k2).mono fun u t st2 et k3 v rv => ?_⟩
  obtain ⟨a, dx, vfs, h1, h2, h3, h4⟩ := setF_step st2 ((sl.ext eq).ext et) rv (rw'.ext et) k3
  exact ⟨a, _, dx, vfs, h1, h2, cl, na, h3, h4⟩
theorem s_fldI (cl : Cls X.K (cm c)) (na : NoAttr X.K (cm c) f) (ho : PE X o (tV (Gx X cm) W co)) (he : PE X e (tV (Gx X cm) W ca)) :
    PS X (.AugAssign (.Attribute o f tpos) .Add e pos) (tS (Gx X cm) W (sFldI c f co ca)) := by
  refine ps_imp (ps_fldaug ho he in_add) fun D σ H ⟨ρ, p, x0, hH, s, sl, k⟩ => ?_
  refine ⟨ρ, p, x0, hH, s, sl, (SPost.st sl k).mono fun u q sq eq k2 v rv => ?_⟩
  unfold fldR at k2
  split at k2
  · rename_i n fs hi
    split at k2
    · rename_i d hd
      obtain ⟨e1, e2, hn, dx, vfs, h1, h2⟩ := ins_rd sq rv hi
      subst e2
      rcases h2.look (f := f) with ⟨h3, h4⟩ | ⟨v, d', h3, h4, h5, h6⟩
      · rw [hd] at h3; cases h3
      · rw [hd] at h3
        cases h3
        refine ⟨_, _, dx, vfs, v, rfl, h1, cl, na, h4, ?_⟩
        have k3 : SPost (Gx X cm) x0 q W D ((ca ρ q.S).st ρ fun y S3 => addF c f u d y ρ S3) := k2
        refine ⟨ρ, q, x0, rfl, sq, sl.ext eq, (SPost.st (sl.ext eq) k3).mono fun y t st2 et k4 w rw' => ?_⟩
        unfold addF at k4
        split at k4
        · rename_i i j
          cases h6 with
          | v h6 =>
            cases h6
            cases rw' with
            | v rw' =>
              cases rw'
              refine ⟨i, j, rfl, rfl, ?_⟩
              obtain ⟨a, dx', vfs', z1, z2, z3, z4⟩ := setF_step (w := .int (i + j)) st2 ((sl.ext eq).ext et) (rv.ext et) (.v (.int _)) k4
              cases z1
              exact ⟨dx', vfs', z2, z3, z4⟩
        · exact k4.elim
    · exact k2.elim
  · exact k2.elim

theorem e_meth_of (hh : PE X (.Call (.Attribute o m apos) es [] pos) (fun σ H Q => tV (Gx X cm) W co σ H fun x H1 => ∃ a dx fs, x = .ref a ∧ H1 a = some (.ins (cm c) dx fs) ∧ fs.lookup m = none ∧ tVa (Gx X cm) W (evL cs) σ H1 fun vs H2 => spV (Gx X cm) ps.length F (x :: vs) H2 Q (WE W σ)))
    (hn : cs.length + 1 = ps.length) : PE X (.Call (.Attribute o m apos) es [] pos) (tV (Gx X cm) W (cMeth c m F co cs)) := by
  refine pe_imp hh fun σ H Q ⟨ρ, p, x0, hH, st, sl, k⟩ => ?_
  refine ⟨ρ, p, x0, hH, st, sl, (RPost.bind k).mono fun u q sq eq k2 v rv => ?_⟩
  split at k2
  · rename_i n fs hi
    split at k2
    · rename_i hd
      obtain ⟨e1, e2, hn', dx, vfs, h1, h2⟩ := ins_rd sq rv hi
      subst e2
      rcases h2.look (f := m) with ⟨h3, h4⟩ | ⟨v, d', h3, h4, h5, h6⟩
      · refine ⟨_, dx, vfs, rfl, h1, h4, ρ, q, x0, rfl, sq, sl.ext eq, (args_step k2).mono fun us t st2 et ⟨hl, k3⟩ ws rws => ?_⟩
        exact call_sp st2 (.cons (rv.ext et) rws) (by rw [List.length_cons, hl]; exact hn) k3
      · rw [hd] at h3; cases h3
    · exact k2.elim
  · exact k2.elim
theorem e_meth0 {pl : Sem Bool} (cl : Cls X.K (cm c)) (hm : Meth X.K (cm c) m g) (FO : FnOk X.prog X.w X.K X.mg X.base (L2.CX X.prog X.w) k g fd ps (spV (Gx X cm) ps.length F)) (hr : Room k X.A) (hb : Binds X.K fd ps []) (tk : Takes X W)
    (he : PE X o (tV (Gx X cm) W co)) (hn : 1 = ps.length := by rfl)
    (ht : eval (.Call (.Attribute o m apos) [] [] pos) X.env = (do
      let obj ← eval o X.env
      standAt apos.atName
      let (fn1, first) ← holding [obj] (getMethod obj m pl)
      callWith pos fn1 first (backTo pos (starEach [] X.env)) (backToKw pos (keywordEach [] X.env))) := by rfl) :
    PE X (.Call (.Attribute o m apos) [] [] pos) (tV (Gx X cm) W (cMeth c m F co [])) := by
  refine e_meth_of (ps := ps) ⟨fun pins s σ H Q I h => ?_⟩ hn
  refine PySem.W.methodCall_KW (pl := pl) (thn (he.run pins s σ H _ I h) fun u s1 hh => ?_) ht
  obtain ⟨x, H1, I1, rx, a, dx, fs, ex, ea, l, q⟩ := hh
  subst ex
  obtain rfl : u = Value.ref a := rx
  refine getmeth_ok I1 ea cl hm l ?_
  refine PySem.W.callWith_K0 (first := [.ref a]) I1.kIn hm.kp ?_
  have ha : PA X [] (tVa (Gx X cm) W (evL [])) := a_nil
  obtain ⟨ρ, p, x0, hH, st, sl, k2⟩ := q
  have k3 := RPost.here st k2 [] .nil
  rw [hH] at k3
  exact run_fnS (us := [.ref a]) (vs := [.ref a]) FO hr hb (passAt tk σ) I1 (.cons rfl .nil) k3
theorem e_meth {pl : Sem Bool} (cl : Cls X.K (cm c)) (hm : Meth X.K (cm c) m g) (FO : FnOk X.prog X.w X.K X.mg X.base (L2.CX X.prog X.w) k g fd ps (spV (Gx X cm) ps.length F)) (hr : Room k X.A) (hb : Binds X.K fd ps []) (tk : Takes X W)
    (he : PE X o (tV (Gx X cm) W co)) (ha : PA X (e :: es) (tVa (Gx X cm) W (evL cs))) (hn : cs.length + 1 = ps.length := by rfl)
    (hst : starEach (e :: es) X.env = (false, eval e X.env) :: starEach es X.env := by rfl) (hpl : (backTo pos (starEach es X.env)).any (·.1) = false := by rfl)
    (ht : eval (.Call (.Attribute o m apos) (e :: es) [] pos) X.env = (do
      let obj ← eval o X.env
      standAt apos.atName
      let (fn1, first) ← holding [obj] (getMethod obj m pl)
      callWith pos fn1 first (backTo pos (starEach (e :: es) X.env)) (backToKw pos (keywordEach [] X.env))) := by rfl) :
    PE X (.Call (.Attribute o m apos) (e :: es) [] pos) (tV (Gx X cm) W (cMeth c m F co cs)) := by
  refine e_meth_of (ps := ps) ⟨fun pins s σ H Q I h => ?_⟩ hn
  refine PySem.W.methodCall_KW (pl := pl) (thn (he.run pins s σ H _ I h) fun u s1 hh => ?_) ht
  obtain ⟨x, H1, I1, rx, a, dx, fs, ex, ea, l, q⟩ := hh
  subst ex
  obtain rfl : u = Value.ref a := rx
  refine getmeth_ok I1 ea cl hm l ?_
  refine PySem.W.callWith_K (first := [.ref a]) (h₀ := X.base) I1.ok.mod.kin hm.kp (thn (ha.run pos pins s1 σ H1 _ I1 q) fun us s2 hh2 => ?_) hst hpl
  obtain ⟨ws, H2, I2, r2, q2⟩ := hh2
  exact ⟨I2.kIn, run_fnS (us := .ref a :: us) (vs := .ref a :: ws) FO hr hb (passAt tk σ) I2 (.cons rfl r2) q2⟩
theorem bl_no {cls : Value} {d : Option Addr} {H : Hp} (h : False) : (fun (_ : Value) (_ : Option Addr) (_ : Hp) => False) cls d H := h
/-- C(..), its __init__ lets nothing out -/
theorem e_make (M : Mk X.K (cm c) g) (FO : FnOk X.prog X.w X.K X.mg X.base (L2.CX X.prog X.w) k g fd ps (spV (Gx X cm) ps.length F)) (hr : Room (k + 1) X.A) (hg : Gl X x) (hm : X.mg x = some (.ref (cm c))) (hb : Binds X.K fd ps []) (tk : Takes X W)
    (ha : PA X (e :: es) (tVa (Gx X cm) W (evL cs))) (hn : cs.length + 1 = ps.length := by rfl) (hdb : (x == ("__debug__" : Str)) = false := by decide)
    (he : starEach (e :: es) X.env = (false, eval e X.env) :: starEach es X.env := by rfl) (hpl : (backTo pos (starEach es X.env)).any (·.1) = false := by rfl) :
    PE X (.Call (.Name x p) (e :: es) [] pos) (tV (Gx X cm) W (cMake c F cs)) := by
  refine pe_imp (pe_make (E := fun _ _ _ => False) M FO hr hg hm hb .nil (passes_call tk fun _ _ _ _ h => h.elim) ha hdb he hpl) fun σ H Q ⟨ρ, p, x0, hH, st, sl, k⟩ => ?_
  refine ⟨ρ, p, x0, hH, st, sl, (args_step k).mono fun us q sq eq ⟨hl, k2⟩ vs rvs => fun xa dx hx hdx ne => ?_⟩
  rw [List.append_nil]
  obtain ⟨s1, e1, _⟩ := sq.new (.own xa) hdx
  have hx1 : (q.new dx (.own xa)).H xa = none := (upd_ne (Ne.symm ne)).trans hx
  obtain ⟨s2, e2⟩ := s1.more (.ins (cm c) dx []) (.ins c []) hx1 fun t et ht => ⟨dx, [], ht, .nil⟩
  have r1 := (rvs.ext e1).ext e2
  unfold mkR at k2
  split at k2
  · rename_i S hres
    have hsp : spV (Gx X cm) ps.length F (.ref xa :: vs) (upd (upd q.H dx (.own xa)) xa (.ins (cm c) dx [])) (fun v H2 => v = .non ∧ Q (.ref xa) H2) (fun _ _ _ => False) := by
      refine call_sp s2 (us := .b q.S.length :: us) (.cons ?_ r1) (by rw [List.length_cons, hl]; exact hn) ?_
      · exact .b (by show _ < (q.S ++ [_]).length; rw [List.length_append]; exact Nat.lt_succ_self _) (by show (if q.S.length = q.S.length then xa else _) = xa; rw [if_pos rfl])
      · show RPost (Gx X cm) _ _ (callR F (.b q.S.length :: us) (q.S ++ [.ins c []])) _
        rw [hres]
        intro t h1 h2 h3 v rv
        cases rv with
        | v rv =>
          cases rv
          refine ⟨rfl, k2 t h1 h2 ((e1.trans e2).trans h3) (.ref xa) (.b ?_ ?_)⟩
          · exact Nat.lt_of_lt_of_le (by show _ < (q.S ++ [_]).length; rw [List.length_append]; exact Nat.lt_succ_self _) h3.len
          · rw [h3.map q.S.length (by show _ < (q.S ++ [_]).length; rw [List.length_append]; exact Nat.lt_succ_self _)]
            show (if q.S.length = q.S.length then xa else _) = xa
            rw [if_pos rfl]
    exact hsp
  · exact k2.elim
end
end Rn
set_option Elab.async false
set_option linter.all false
set_option maxRecDepth 100000
set_option maxHeartbeats 4000000
namespace Rn
open PySem L2 PyProof.Rows

/-! ## raise -/
def sRaise0 (c : Nat) : CS := fun ρ S => .ex ⟨c, []⟩ ρ S
def exR (c : Nat) (f : Str) (u : U) (ρ : Env) (S : List Box) : Rs := match u with
  | .v d => .ex ⟨c, [(f, d)]⟩ ρ S
  | _ => .no
def sRaiseA (c : Nat) (f : Str) (ca : CE) : CS := fun ρ S => (ca ρ S).st ρ fun u S1 => exR c f u ρ S1
/-- what __init__(self, f) of an own exception leaves: one field -/
def spI (C : Addr) (f : Str) : Sp := fun vs H Q _ => ∃ (a : Addr) (v : V), vs = [.ref a, v] ∧ H a = some (exo a C none) ∧ ∀ dx, H dx = none → dx ≠ a → Q .non (upd (upd H dx (exd dx [(f, v)])) a (exo a C (some dx)))
section
variable {X : Cx} {cm : Nat → Addr} {W : WX} {k c : Nat} {C R fI : Addr} {fd : FuncData} {ps : List Str} {x f B m : Str} {j : Nat} {p p2 p3 p4 pos pos' : Pos} {e o : Expr} {es : List Expr} {ca : CE} {ta : TA}
theorem s_raise0 {bmB : List Value} {nB newId initId : String} (hc : X.calm = true) (tk : Takes X W) (F : ExcBaseFacts nB newId initId bmB) (q : PySem.W.excIn X.K (cm c) bmB newId = true) (gC : X.mg x = some (.ref (cm c))) (kC : PySem.W.keepIn X.K (.ref (cm c)) = true)
    (exC : PySem.W.subIn X.K (.ref (cm c)) (.type "BaseException") = some true) (tyC : PySem.W.typeIn X.K (.ref (cm c)) = some (.type "type")) (hg : Gl X x) (hdb : (x == ("__debug__" : Str)) = false := by decide) :
    PS X (.Raise (some (.Call (.Name x p) [.Constant (.str m) j p2] [] pos)) none pos') (tS (Gx X cm) W (sRaise0 c)) := by
  refine ps_imp (ps_raise hc tk (pmk_own F q gC kC (raises_own exC tyC) hg hdb)) fun D σ H ⟨ρ, p, x0, hH, s, sl, k⟩ => ?_
  have k2 := k p σ (.ref (cm c)) none rfl s (ExtS.refl x0 p) sl ⟨rfl, .inl rfl⟩
  rw [hH] at k2
  exact k2
/-- B.__init__(self, ..), B an own class over ValueError -/
theorem pe_binit {pl : Sem Bool} (hg : Gl X B) (hm : X.mg B = some (.ref R)) (gg : PySem.W.specialIn X.K (.ref R) "__getattribute__" = some (some (.builtin "type.__getattribute__"))) (rr : PySem.W.readsIn X.K R (.type "type") = true)
    (vV : PySem.W.findCls X.K (.ref R) (.type "type") "__init__" = some (.val (.builtin "ValueError.__init__"))) (ha : PA X (e :: es) ta)
    (hc : eval (.Call (.Attribute (.Name B p) "__init__" p2) (e :: es) [] pos) X.env = (do
      let obj ← eval (.Name B p) X.env
      standAt p2.atName
      let (fn1, first) ← holding [obj] (getMethod obj "__init__" pl)
      callWith pos fn1 first (backTo pos (starEach (e :: es) X.env)) (backToKw pos (keywordEach [] X.env))) := by rfl)
    (hdb : (B == ("__debug__" : Str)) = false := by decide) (he : starEach (e :: es) X.env = (false, eval e X.env) :: starEach es X.env := by rfl) (hpl : (backTo pos (starEach es X.env)).any (·.1) = false := by rfl) :
    PE X (.Call (.Attribute (.Name B p) "__init__" p2) (e :: es) [] pos) (tVeI X.K ta) := by
  refine ⟨fun pins s σ H Q I h => ?_⟩
  refine PySem.W.methodCall_KW (ld_glob I hg hm ?_ hdb) hc
  refine PySem.W.method_cls I.kIn gg (PySem.W.cls_value I.kIn rr vV (by decide +kernel) ?_)
  show wpAny _ _ (callWith pos (Value.builtin "ValueError.__init__") [] (backTo pos (starEach (e :: es) X.env)) []) _ _ _
  refine PyProof.Rows.callWith_method1 (thn (ha.run pos pins _ σ H _ (I.tok _) h) fun us s1 hh => ?_) he hpl
  obtain ⟨vs, H1, I1, r1, a, C, ws, ev, hl, T, ea, q⟩ := hh
  subst ev
  cases r1 with
  | @cons _ u0 _ ur ra rw' =>
    obtain rfl : u0 = Value.ref a := ra
    refine oinit_ok T I1 ea ?_ fun s' J => ⟨.non, H1, J, rfl, q⟩
    rw [← Paired.length rw', sizeLine_eq]
    omega
theorem init_body {B f m : Str} {p1 p2 p3 p4 p5 p6 p7 p8 p9 p10 : Pos} {j : Nat} {pl : Sem Bool} (hN : X.N = [("self" : Str), f]) (v0 : Vis X.env.scope "self") (v1 : Vis X.env.scope f) (hg : Gl X B) (hm : X.mg B = some (.ref R))
    (gg : PySem.W.specialIn X.K (.ref R) "__getattribute__" = some (some (.builtin "type.__getattribute__"))) (rr : PySem.W.readsIn X.K R (.type "type") = true)
    (vV : PySem.W.findCls X.K (.ref R) (.type "type") "__init__" = some (.val (.builtin "ValueError.__init__")))
    (hc : eval (.Call (.Attribute (.Name B p1) "__init__" p2) [.Name "self" p3, .Constant (.str m) j p4] [] p5) X.env = (do
      let obj ← eval (.Name B p1) X.env
      standAt p2.atName
      let (fn1, first) ← holding [obj] (getMethod obj "__init__" pl)
      callWith p5 fn1 first (backTo p5 (starEach [.Name "self" p3, .Constant (.str m) j p4] X.env)) (backToKw p5 (keywordEach [] X.env))) := by rfl)
    (d1 : (f == ("__debug__" : Str)) = false := by decide) (d2 : (f == ("__classdict__" : Str)) = false := by decide) (hdb : (B == ("__debug__" : Str)) = false := by decide) :
    PSs X [.Expr (.Call (.Attribute (.Name B p1) "__init__" p2) [.Name "self" p3, .Constant (.str m) j p4] [] p5) p6, .Assign [.Attribute (.Name "self" p7) f p8] (.Name f p9) p10]
      (tSeq (tDrop (tVeI X.K (tCons (tVar 0) (tCons (tC (.str m)) tNil)))) (tOst X.K f (tVar 0) (tVar 1))) :=
  pss_cons (ps_expr (pe_binit hg hm gg rr vV (pa_cons (pe_var (by rw [hN]; rfl) v0) (pa_cons pe_str pa_nil)) hc hdb)) (pss_one (ps_ost (pe_var (by rw [hN]; rfl) v0) (pe_var (by rw [hN]; rfl) v1 d1 d2)))
theorem init_reads {K : PySem.W.Frag} {f m : Str} {vs : List V} {H : Hp} {Q : VK} {E : XK} (T : OexC K C) (na : PySem.W.findIn K (.ref C) f = some none) (h : spI C f vs H Q E) :
    tSeq (tDrop (tVeI K (tCons (tVar 0) (tCons (tC (.str m)) tNil)))) (tOst K f (tVar 0) (tVar 1)) { nx := fun _ H' => Q .non H', rt := Q } (start [("self" : Str), f] vs) H := by
  obtain ⟨a, v, rfl, ha, k⟩ := h
  exact ⟨.ref a, rfl, a, C, [.str m], rfl, (by decide : 1 ≤ 1000), T, ha, v, rfl, .ref a, rfl, a, C, rfl, T, na, .inl ⟨ha, fun dx hd ne => k dx hd ne⟩⟩
/-- raise C(e), C's __init__ keeping one field -/
theorem s_raiseA {f : Str} (hc : X.calm = true) (tk : Takes X W) (T : OexC X.K (cm c)) (iC : PySem.W.findIn X.K (.ref (cm c)) "__init__" = some (some (.ref fI))) (tI : PySem.W.typeIn X.K (.ref fI) = some (.type "function"))
    (F1 : FnOk X.prog X.w X.K X.mg X.base (L2.CX X.prog X.w) k fI fd [("self" : Str), f] (spI (cm c) f)) (hr : Room (k + 1) X.A) (hb : Binds X.K fd [("self" : Str), f] []) (hg : Gl X x) (hm : X.mg x = some (.ref (cm c))) (ha : PE X e (tV (Gx X cm) W ca))
    (hst : starEach [e] X.env = (false, eval e X.env) :: starEach [] X.env := by rfl)
    (hdb : (x == ("__debug__" : Str)) = false := by decide) : PS X (.Raise (some (.Call (.Name x p) [e] [] pos)) none pos') (tS (Gx X cm) W (sRaiseA c f ca)) := by
  refine ps_imp (ps_raise hc tk (pmk_oex T iC tI F1 hr hb .nil (passes_call tk fun _ _ _ _ h => h.elim) hg hm (pa_cons ha pa_nil hst) hdb hst)) fun D σ H ⟨ρ, p, x0, hH, s, sl, k⟩ => ?_
  refine ⟨ρ, p, x0, hH, s, sl, (SPost.st sl k).mono fun u q sq eq k2 v rv => ?_⟩
  refine ⟨(by decide : 1 ≤ 1000), fun a ha => ?_⟩
  unfold exR at k2
  split at k2
  · rename_i d
    cases rv with
    | v rv =>
      refine ⟨a, v, rfl, upd_same, fun dx hd ne => ⟨rfl, dx, [(f, v)], upd_same, ?_, ?_, ?_⟩⟩
      · rw [upd_ne ne, upd_same]
      · rw [upd_ne ne] at hd; exact hd
      · have hdx : q.H dx = none := by rw [upd_ne ne] at hd; exact hd
        have eH : upd (del (upd (upd (upd q.H a (exo a (cm c) none)) dx (exd dx [(f, v)])) a (exo a (cm c) (some dx))) a) dx (.xd [(f, v)]) = upd q.H dx (.xd [(f, v)]) := by
          funext b
          by_cases h1 : b = dx
          · rw [h1, upd_same, upd_same]
          · rw [upd_ne h1, upd_ne h1]
            by_cases h2 : b = a
            · rw [h2, del_same, ha]
            · rw [del_ne h2, upd_ne h2, upd_ne h1, upd_ne h2]
        rw [eH]
        obtain ⟨s1, e1, n1⟩ := sq.new (.xd [(f, v)]) hdx
        exact k2 (q.new dx (.xd [(f, v)])) σ (.ref (cm c)) (some dx) rfl s1 (sl.ext eq |>.toS e1) ((sl.ext eq).ext e1) ⟨rfl, .inr ⟨dx, _, rfl, upd_same, n1, .cons rfl (.v (rv.ext e1.toExtS)) .nil⟩⟩
  · exact k2.elim
end

/-! ## try -/
def noX : Rs → Rs
  | .ex _ _ _ => .no
  | r => r
def tryR (r : Rs) (c : Nat) (g : Exn → CS) : Rs := match r with
  | .ex x ρ S => if x.c = c then noX (g x ρ S) else .no
  | r => r
def sTry (c : Nat) (body : CS) (g : Exn → CS) : CS := fun ρ S => tryR (body ρ S) c g
section
variable {X : Cx} {cm : Nat → Addr} {W : WX} {k c i : Nat} {x n : Str} {body suite : List Stmt} {b₀ : Stmt} {np pos pos' : Pos} {cb : CS}
/-- the suite asks nothing of the exception -/
theorem s_tryOnly {cs : CS} (hs : X.stack = X.env :: X.outer) (hf : X.env.frame = some X.env.locals) (hc : Names X x (.ref (cm c))) (te : PySem.W.exmOne X.K (.ref (cm c)) (.ref (cm c)) = some true) (tk : Takes X W)
    (hb : ∀ (W : WX) (pn : List (Addr × Obj)) (xe : Value → Shared → Prop), Takes (X.tr pn xe) W → PassesOwn (model X.prog X.w) X.A X.env xe → PSs (X.tr pn xe) body (tS (Gx X cm) W cb))
    (hsu : ∀ (a : Addr) (oe : Obj) (pn : List (Addr × Obj)), PSs (X.suite a ((a, oe) :: pn)) (b₀ :: suite) (tS (Gx X cm) W0 cs)) :
    PS X (.Try body [.ExceptHandler (some (.Name x np)) none (b₀ :: suite) pos'] [] [] pos) (tS (Gx X cm) W (sTry c cb fun _ => cs)) := by
  refine ps_imp (ps_try_only (ts := fun _ _ _ => tS (Gx X cm) W0 cs) hs hf hc tk hb fun a oe cls d pn _ _ => hsu a oe pn) fun D σ H ⟨ρ, p, x0, hH, s, sl, k⟩ => ?_
  refine ⟨ρ, p, x0, hH, s, sl, ?_⟩
  unfold sTry tryR at k
  cases e : cb ρ p.S with
  | nx ρ1 S1 => rw [e] at k; exact k
  | rt d S1 => rw [e] at k; exact k
  | bk ρ1 S1 => rw [e] at k; exact k
  | ct ρ1 S1 => rw [e] at k; exact k
  | no => rw [e] at k; exact k.elim
  | ex y ρ1 S1 =>
    rw [e] at k
    dsimp only at k
    by_cases hy : y.c = c
    · rw [if_pos hy] at k
      intro q σ1 cls dx h1 h2 h3 h4 h5
      have ec : cls = .ref (cm c) := by rw [h5.cls, hy]
      refine ⟨true, by rw [ec]; exact te, fun _ a _ => ⟨ρ1, q, x0, rfl, h2, h4, ?_⟩, fun z => by cases z⟩
      rw [h1]
      have k3 := SPost.extS h3 k
      cases e2 : cs ρ1 S1 with
      | nx ρ2 S2 => rw [e2] at k3; exact k3
      | rt d S2 => rw [e2] at k3; exact k3
      | bk ρ2 S2 => rw [e2] at k3; exact k3
      | ct ρ2 S2 => rw [e2] at k3; exact k3
      | no => rw [e2] at k3; exact k3.elim
      | ex y2 ρ2 S2 => rw [e2] at k3; exact k3.elim
    · rw [if_neg hy] at k
      exact k.elim
/-- e.f, e the exception that the suite holds -/
def tXf (C : Addr) (a : Addr) (cls : Value) (d : Option Addr) (f : Str) (te : TE) : TE := fun σ H Q => te σ H fun x H1 => x = .ref a ∧ cls = .ref C ∧ ∃ (dd : Addr) (vfs : List (Str × V)) (v : V), d = some dd ∧ H1 dd = some (.xd vfs) ∧ vfs.lookup f = some v ∧ Q v H1
/-- what the written part says of such a class, for its fields -/
structure ExG (K : PySem.W.Frag) (C : Addr) (f : Str) : Prop where
  ga : PySem.W.findIn K (.ref C) "__getattribute__" = some (some (.builtin "BaseException.__getattribute__"))
  gg : PySem.W.findIn K (.ref C) "__getattr__" = some none
  noN : PySem.W.findIn K (.ref C) f = some none
  exC : PySem.W.subIn K (.ref C) (.type "BaseException") = some true
  hdC : PySem.W.hasDictIn K C = true
theorem pe_xf {f : Str} {C a : Addr} {oe : Obj} {cls : Value} {d : Option Addr} {pn : List (Addr × Obj)} {e : Expr} {te : TE} (T : ExG X.K C f) (hz : Zc cls d oe) (hfl : ∃ vs, oe.data = .fields vs) (he : PE (X.suite a ((a, oe) :: pn)) e te)
    (hb : attributeBase e f X.env (eval e X.env) = eval e X.env := by rfl) : PE (X.suite a ((a, oe) :: pn)) (.Attribute e f pos) (tXf C a cls d f te) := by
  refine ⟨fun pins s σ H Q I h => ?_⟩
  refine attr_of hb (thn (he.run pins s σ H _ I h) fun u s1 hh => ?_)
  obtain ⟨x, H1, I1, rx, ex, ec, dd, vfs, v, ed, ea, el, q⟩ := hh
  subst ex
  obtain rfl : u = Value.ref a := rx
  subst ec
  subst ed
  have pa := (I1.pin (a, oe) (List.mem_append_left _ List.mem_cons_self)).1
  obtain ⟨fvs, hd⟩ := hfl
  obtain ⟨mA, hns, hrel⟩ := (show ObjOk X.prog X.w H1 s1.heap dd (.xd vfs) from I1.hok dd _ ea)
  obtain ⟨od, hod, hlk⟩ := lookIn_ns hns
  obtain ⟨u, hu, ru⟩ := RelO.some_of (v := v) (o := mA f) (by rw [← el]; exact hrel f)
  have J : PySem.W.InstAt s1.heap a oe C (some od) := ⟨pa, hz.1, by unfold PySem.W.notCls; rw [hd] <;> rfl, by rw [hz.2]; exact hod⟩
  exact HandSPX.exc_get I1.kIn J T.ga T.gg T.exC (PySem.W.findObj_own T.hdC T.noN rfl (by rw [hlk, hu])) (handed_of ru) ⟨v, H1, I1.tok _, ru, q⟩
/-- except C as n: return [tag, n.f] -/
def gTag (i : Nat) (tag f : Str) : Exn → CS := fun y ρ S => match y.fs with
  | [(g, d)] => if g = f ∧ i < ρ.length then .rt (.v (.lst [.str tag, d])) S else .no
  | _ => .no
theorem s_tryTag {f tag : Str} {q1 q2 q3 q4 q5 : Pos} {j : Nat} (hs : X.stack = X.env :: X.outer) (hf : X.env.frame = some X.env.locals) (hN : X.N.Nodup) (hi : X.N[i]? = some n) (hln : X.env.kindOf n = some .local) (vn : Vis X.env.scope n)
    (hc : Names X x (.ref (cm c))) (te : PySem.W.exmOne X.K (.ref (cm c)) (.ref (cm c)) = some true) (tk : Takes X W) (T : ExG X.K (cm c) f)
    (hb : ∀ (W : WX) (pn : List (Addr × Obj)) (xe : Value → Shared → Prop), Takes (X.tr pn xe) W → PassesOwn (model X.prog X.w) X.A X.env xe → PSs (X.tr pn xe) body (tS (Gx X cm) W cb))
    (hba : attributeBase (.Name n q3) f X.env (eval (.Name n q3) X.env) = eval (.Name n q3) X.env := by rfl)
    (d1 : (n == ("__debug__" : Str)) = false := by decide) (d2 : (n == ("__classdict__" : Str)) = false := by decide) 
    (s1 : starEach [.Constant (.str tag) j q2, .Attribute (.Name n q3) f q4] X.env = (false, eval (.Constant (.str tag) j q2) X.env) :: starEach [.Attribute (.Name n q3) f q4] X.env := by rfl)
    (s2 : starEach [.Attribute (.Name n q3) f q4] X.env = (false, eval (.Attribute (.Name n q3) f q4) X.env) :: starEach [] X.env := by rfl) :
    PS X (.Try body [.ExceptHandler (some (.Name x np)) (some n) [.Return (some (.List [.Constant (.str tag) j q2, .Attribute (.Name n q3) f q4] q1)) q5] pos'] [] [] pos) (tS (Gx X cm) W (sTry c cb (gTag i tag f))) := by
  refine ps_imp (ps_try_as (ts := fun a cls d => tRet (tLst (tCons (tC (.str tag)) (tCons (tXf (cm c) a cls d f (tVar i)) tNil)))) hs hf hN hi hln hc tk hb
    (fun a oe cls d pn hz hfl => pss_one (ps_ret (pe_lst (pa_cons pe_str (pa_cons (pe_xf T hz hfl (pe_var hi vn d1 d2) hba) pa_nil s2) s1))))) fun D σ H ⟨ρ, p, x0, hH, s, sl, k⟩ => ?_
  refine ⟨ρ, p, x0, hH, s, sl, ?_⟩
  unfold sTry tryR at k
  cases e : cb ρ p.S with
  | nx ρ1 S1 => rw [e] at k; exact k
  | rt d S1 => rw [e] at k; exact k
  | bk ρ1 S1 => rw [e] at k; exact k
  | ct ρ1 S1 => rw [e] at k; exact k
  | no => rw [e] at k; exact k.elim
  | ex y ρ1 S1 =>
    rw [e] at k
    dsimp only at k
    by_cases hy : y.c = c
    · rw [if_pos hy] at k
      intro q σ1 cls dx h1 h2 h3 h4 h5
      have ec : cls = .ref (cm c) := by rw [h5.cls, hy]
      refine ⟨true, by rw [ec]; exact te, fun _ a ha => ?_, fun z => by cases z⟩
      unfold gTag at k
      cases h5 with
      | mk hcls hfs =>
      split at k
      · rename_i g dv efs
        by_cases hz : g = f ∧ i < ρ1.length
        · rw [if_pos hz] at k
          have hgf := hz.1
          subst hgf
          rw [efs] at hfs
          rcases hfs with hfs | ⟨dd, vfs, r1, r2, r3, r4⟩
          · cases hfs
          · cases r4 with
            | @cons _ vv _ _ _ rn rv rt =>
              cases rt
              cases rv with
              | v rv =>
                refine ⟨.ref a, ?_, rfl, ec, dd, _, vv, r1, r2, ?_, (by decide : 2 ≤ sizeLine), fun l hl => ?_⟩
                · rw [List.getElem?_set_self (by rw [← h4.len]; exact hz.2)]
                · simp only [List.lookup, beq_self_eq_true]
                · obtain ⟨t1, u1, n1⟩ := h2.new (.lst [.str tag, vv]) hl
                  have eS : (q.new l (.lst [.str tag, vv])).S = S1 := h1
                  exact k (q.new l (.lst [.str tag, vv])) (.ref l) eS t1 (h3.trans (h4.toS u1)) (fun z hz => h4.sub z hz) rfl (.v (.lst upd_same n1 (.cons (.str _) (.cons (rv.ext u1.toExtS) .nil))))
        · rw [if_neg hz] at k
          exact k.elim
      · exact k.elim
    · rw [if_neg hy] at k
      exact k.elim
end
end Rn
set_option Elab.async false
set_option linter.all false
set_option maxRecDepth 100000
set_option maxHeartbeats 8000000
/-! a list comprehension whose element may raise -/
namespace Rn
open PySem L2 PyProof.Rows

section
variable {M : Model} {A : Around} {E : Value → Shared → Prop} {s : Shared} {env : PySem.Env}
/-- behind the block: the block's environment is told -/
def postX (M : Model) (A : Around) (E : Value → Shared → Prop) (Q : Value → Shared → Prop) (acc : Value) (ce : PySem.Env) : Result → Shared → Prop
  | .ok _, t => ∃ m, t.heap.Ns ce.locals m ∧ ∀ h', Heap.SameBut ce.locals t.heap h' → Q acc { t with heap := h' }
  | .error x, t => ∃ m, t.heap.Ns ce.locals m ∧ ∀ h', Heap.SameBut ce.locals t.heap h' → wpAny M A (passOn "comprehension.variables-let-go" x ce : Sem Value) (fun _ _ => False) E { t with heap := h' }
theorem lc_free {e : Expr} {scope : Scope} {pos : Pos} {newAcc first : Sem Value} {g : Comprehension} {gs : List Comprehension} {cl : List (Str × Addr)} {Q : Value → Shared → Prop}
    (hcl : clausesOf e = g :: gs) (hs : ∀ x, foldedSetIterable g.iter env x = pure x) (hclos : closureFor scope env = pure cl) (hkind : scope.kind = .function) (hnames : ∀ x ∈ scope.names, x.2 = .local → scope.names.lookup x.1 = some .local)
    (h : wpAny M A first (fun x t1 => wpAny M A (pyIter x) (fun it t2 => wpAny M A newAcc (fun acc t3 => wpAny M A (newFunctionEnv scope env.globals cl [] env.qual none .none (some env)) (fun ce t4 =>
      codeAny M A (.compStart e 0 it acc { ce with scope := relabel scope env }) (postX M A E Q acc { ce with scope := relabel scope env }) t4) E t3) E t2) E t1) E s) :
    wpAny M A (comprehension e scope env pos newAcc false first none) Q E s := by
  unfold comprehension
  rw [hclos, hcl]
  refine wpAny_bind (wpAny_mono h (fun x t1 k1 => ?_) fun _ _ z => z)
  refine wpAny_bind (wpAny_standAt (wpAny_bind (wpAny_of_eq (hs x) ?_)))
  refine wpAny_bind (wpAny_holding (wpAny_mono k1 (fun it t2 k2 => ?_) fun _ _ z => z))
  refine wpAny_standIf (wpAny_bind (wpAny_mono k2 (fun acc t3 k3 => ?_) fun _ _ z => z))
  refine wpAny_bind (wpAny_pure (wpAny_bind (wpAny_mono k3 (fun ce t4 k4 => ?_) fun _ _ z => z)))
  dsimp only
  have hv : ∀ x ∈ (scope.names.filter fun x => (x.2 == .local || x.2 == .cell) && x.1 != (".0" : Str)).reverse, x.2 = .local → PySem.Env.kindOf { ce with scope := relabel scope env } x.1 = some .local :=
    fun x hx hl => lookup_relabel_local (hnames x (List.mem_filter.mp (List.mem_reverse.mp hx)).1 hl)
  refine wpAny_holding (wpAny_bind (wpAny_attempt (wpAny_holding (wpAny_run (codeAny_mono k4 fun r t hr => ?_)))))
  cases r with
  | ok f =>
    obtain ⟨m, hn, hr⟩ := hr
    exact wpAny_bind (wpAny_holding (wpAny_comp_letGo (cenv := { ce with scope := relabel scope env }) hkind _ t m hv hn fun h' m' _ hs' => wpAny_pure (hr h' hs')))
  | error x =>
    obtain ⟨m, hn, hr⟩ := hr
    exact wpAny_bind (wpAny_holding (wpAny_comp_letGo (cenv := { ce with scope := relabel scope env }) hkind _ t m hv hn fun h' m' _ hs' => wpAny_mono (hr h' hs') (fun _ _ f => f.elim) fun _ _ y => y))

theorem note_same {e : Value} {a b : PySem.Env} (h : a.frame = b.frame) : noteFrame e a = noteFrame e b := by
  unfold noteFrame PySem.frameOf
  rw [h]
/-- noted at a frame that it is not in flight over -/
theorem note_any {Z : Obj → Prop} {outer : List PySem.Env} {L a : Addr} {B : Heap} {fl : Value} {Q : Unit → Shared → Prop} (hZ : HandSPX.Steady Z) (hfr : A.frames = some (env :: outer)) (hf : env.frame = some L) (hne : (fl == rawInt L) = false)
    (k1 : B.StaysIn s.heap) (k2 : B.get? a = none) (k3 : s.heap.FunFrames B (env :: outer)) (k4 : HandSPX.TracedZ s.heap B a Z fl)
    (hQ : ∀ h', HandSPX.HeldZ B (env :: outer) a Z L h' → s.heap.UpToSlots h' → Q () { s with heap := h' }) : wpAny M A (noteFrame (.ref a) env) Q E s := by
  obtain ⟨oe, vs, T, oT, ts, he, hz, hd, h1, hnT, hTe, hT, hdT, h3⟩ := k4
  unfold noteFrame
  simp only [hf]
  refine wpAny_bind (wpAny_field he hd h1 ?_)
  rw [if_pos (show (Value.ref T != Value.none) = true from by simp)]
  refine wpAny_bind (wpAny_field hT hdT h3 ?_)
  rw [if_neg (show ¬ ((fl == rawInt L) = true) from by rw [hne]; exact Bool.false_ne_true)]
  refine wpAny_bind (wpAny_setField hT hdT (Array.getElem?_eq_some_iff.mp h3).1 ?_)
  have oth : ∀ b, b ≠ T → (s.heap.update T (Obj.mapFields (·.setIfInBounds 3 Value.none))).get? b = s.heap.get? b := fun b hb => Heap.get?_update_other _ _ (Ne.symm hb)
  have nrec : ∀ b o, s.heap.get? b = some o → (∀ vs, o.data ≠ .fields vs) → b ≠ T := fun b o hb hnf q => by
    rw [q, hT] at hb
    injection hb with hb
    subst hb
    exact hnf ts hdT
  have kB : B.StaysIn (s.heap.update T (Obj.mapFields (·.setIfInBounds 3 Value.none))) := fun b o hbo => by
    have hb : b ≠ T := fun q => by
      rw [q, hnT] at hbo
      cases hbo
    exact (oth b hb).trans (k1 b o hbo)
  refine HandSPX.wpAny_entryZ hZ hfr (k3.of_keeps fun b o hb hnf => ⟨o, (oth b (nrec b o hb hnf)).trans hb, rfl⟩) hf ((oth a (Ne.symm hTe)).trans he) kB k2 hd (Array.getElem?_eq_some_iff.mp h1).1 hz fun h' hN => ?_
  obtain ⟨x1, x2, x3, x4⟩ := hN
  exact hQ h' ⟨x1, k2, x2, x3⟩ fun b o hb hnf => x4 b o ((oth b (nrec b o hb hnf)).trans hb) hnf
theorem ff_mono {h B B' : Heap} (k : ∀ b, B.get? b = none → B'.get? b = none) : ∀ {l : List PySem.Env}, h.FunFrames B l → h.FunFrames B' l
  | [], _ => trivial
  | _ :: _, ⟨a, ⟨L, o, b, c, d, e⟩, r⟩ => ⟨a, ⟨L, o, b, k L c, d, e⟩, ff_mono k r⟩
end

section
variable {X : Cx}
def lcNote (X : Cx) (W : WX) (ce : PySem.Env) (s3 : Shared) (H3 : Hp) (scope : Scope) (fp : List Addr) : Value → Shared → Prop := XE (X.blk s3 H3 scope ce fp) W
/-- the reading: the element's wish is the caller's, at the slots of the caller -/
def tLcX (wi : TI) (g : TG) (tt : TT) (te : WX → TE) (W : WX) (vs : List Nat) : TE := fun σ H Q => tLc wi g tt (te fun cls d _ H => W cls d σ H) vs σ H Q
theorem pe_lcX {elt tg iter : Expr} {ifs : List Expr} {scope : Scope} {own : List (Str × Nat)} {pos : Pos} {wi : TI} {g : TG} {tt : TT} {te : WX → TE} {W : WX} (hst : X.stack = X.env :: X.outer) (hf : X.env.frame = some X.env.locals) (tk : Takes X W)
    (hc : X.calm = true) (hN : X.N.Nodup) (hi : PI X tg iter wi) (ok : BlkOk X.N X.env.scope scope own)
    (hg : ∀ (s : Shared) (H : Hp) (C : Addr) (cl : List (Str × Addr)) (fp : List Addr), PG (X.blk s H scope (compEnvC scope cl C X.env) fp) tg g)
    (ht : ∀ (s : Shared) (H : Hp) (C : Addr) (cl : List (Str × Addr)) (fp : List Addr), PTs (X.blk s H scope (compEnvC scope cl C X.env) fp) ifs tt)
    (he : ∀ (s : Shared) (H : Hp) (C : Addr) (cl : List (Str × Addr)) (fp : List Addr) (Wb : WX) (xe : Value → Shared → Prop), Takes ((X.blk s H scope (compEnvC scope cl C X.env) fp).wish xe) Wb → PE ((X.blk s H scope (compEnvC scope cl C X.env) fp).wish xe) elt (te Wb))
    (hs : ∀ x, foldedSetIterable iter X.env x = pure x := by intro _; rfl) :
    PE X (.ListComp elt [⟨tg, iter, ifs, 0⟩] scope pos) (tLcX wi g tt te W (own.map (·.2))) := by
  refine ⟨fun pins s σ H Q I h => ?_⟩
  rw [eval_ListComp]
  generalize hWb : (fun cls d _ H => W cls d σ H : WX) = Wb
  have h : tLc wi g tt (te Wb) (own.map (·.2)) σ H Q := by rw [← hWb]; exact h
  have hfr : X.A.frames = some (X.env :: X.outer) := by rw [I.ok.frames, hst]
  have hfree : ∀ y ∈ scope.names, y.2 = .free → ∃ c, X.env.cells.lookup y.1 = some c := fun y hy e => by
    rcases ok.free y hy e with k | k
    · exact I.ok.has _ (.inl k)
    · exact I.ok.has _ (.inr k)
  refine lc_free rfl hs (closure_ok hfree) ok.kind (fun y hy e => by rw [ok.uniq y hy, e]) (thn (hi.run pins s σ H _ I h) fun xv s1 hx => thn hx fun itv s2 h2 => ?_)
  obtain ⟨it, fp, tn, J, H2, e, I2, T, st2, f2, q⟩ := h2
  subst e
  refine wpAny_newObj_type (newEnv_comp ?_) (by show 0 ≤ sizeLine; decide)
  generalize hD : s2.heap.objs.size = D
  have hDn : H2 D = none := I2.hok.fresh (Nat.le_of_eq hD)
  obtain ⟨Wm, ⟨m0, w0⟩, turn⟩ := q D hDn
  generalize hs3 : ({ s2 with heap := s2.heap.push { cls := .type "list", data := .seq ([] : List Value).toArray } } : Shared) = s3
  have h3 : s3.heap = s2.heap.push { cls := .type "list", data := .seq ([] : List Value).toArray } := by rw [← hs3]
  have I3 : Inv X pins σ (upd H2 D (.lst [])) s3 := by
    rw [← hs3]
    refine I2.laid (t' := s2.toks) (fun b o e => Heap.get?_push_of_some _ e) (Nat.le_of_eq hD) ⟨Nat.zero_le _, [], 0, .nil, ?_⟩
    rw [← hD]
    exact Heap.get?_push_size _ rfl
  have sz : ∀ b ∈ fp, b < s2.heap.objs.size := fun b hb => let ⟨o, e, _⟩ := T.obj _ _ st2 b hb; Heap.lt_size e
  have f3 : ∀ b ∈ fp, FpOk X pins (upd H2 D (.lst [])) b ∧ b < s3.heap.objs.size := fun b hb => by
    have hlt := sz b hb
    have hbD : b ≠ D := by rw [← hD]; exact Nat.ne_of_lt hlt
    exact ⟨⟨(upd_ne hbD).trans (f2 b hb).1, (f2 b hb).2⟩, by rw [h3, Heap.size_push]; exact Nat.lt_succ_of_lt hlt⟩
  have st3 : tn 0 s3.heap := T.keep _ _ _ st2 fun b _ o e => by rw [h3]; exact Heap.get?_push_of_some _ e
  have I4 := block_start I3 ok hN f3
  generalize hH3 : upd H2 D (.lst []) = H3 at I3 I4 w0 f3
  have pg := hg s3 H3 s3.heap.objs.size (cellsFrom (s3.heap.objs.size + 1) scope.names (cloFrom X.env.cells scope.names [])) fp
  have pt := ht s3 H3 s3.heap.objs.size (cellsFrom (s3.heap.objs.size + 1) scope.names (cloFrom X.env.cells scope.names [])) fp
  have pe := he s3 H3 s3.heap.objs.size (cellsFrom (s3.heap.objs.size + 1) scope.names (cloFrom X.env.cells scope.names [])) fp Wb
  show codeAny _ _ (.compStart (.ListComp elt [⟨tg, iter, ifs, 0⟩] scope pos) 0 (.ref it) (.ref D) (compEnvC scope (cellsFrom (s3.heap.objs.size + 1) scope.names (cloFrom X.env.cells scope.names [])) s3.heap.objs.size X.env))
    (postX (model X.prog X.w) X.A X.xe (EP X pins σ Q) (.ref D) (compEnvC scope (cellsFrom (s3.heap.objs.size + 1) scope.names (cloFrom X.env.cells scope.names [])) s3.heap.objs.size X.env)) { s3 with heap := pushCells (s3.heap.push { cls := .type "dict", data := .dict #[] }) scope.names }
  have cF : (compEnvC scope (cellsFrom (s3.heap.objs.size + 1) scope.names (cloFrom X.env.cells scope.names [])) s3.heap.objs.size X.env).frame = X.env.frame := rfl
  have cL : (compEnvC scope (cellsFrom (s3.heap.objs.size + 1) scope.names (cloFrom X.env.cells scope.names [])) s3.heap.objs.size X.env).locals = s3.heap.objs.size := rfl
  generalize compEnvC scope (cellsFrom (s3.heap.objs.size + 1) scope.names (cloFrom X.env.cells scope.names [])) s3.heap.objs.size X.env = ce at I4 pg pt pe cF cL ⊢
  generalize hs4 : ({ s3 with heap := pushCells (s3.heap.push { cls := .type "dict", data := .dict #[] }) scope.names } : Shared) = s4 at I4 ⊢
  have nfp : ∀ b ∈ fp, H3 b = none := fun b hb => (f3 b hb).1.1
  have st4 : tn 0 s4.heap := T.keep _ _ _ st3 fun b _ o e => by rw [← hs4]; exact pushCells_keeps _ _ _ _ (Heap.get?_push_of_some _ e)
  have stat : ∀ {σ' : L2.St} {H' : Hp} {t : Shared}, Inv (X.blk s3 H3 scope ce fp) [] σ' H' t → (∀ b ∈ fp, H' b = none) → ∀ b ∈ fp, FpOk (X.blk s3 H3 scope ce fp) [] H' b := fun {σ' H' t} I' hn b hb =>
    ⟨hn b hb, (I'.ok.exf b hb).1, I'.ok.exfs b hb, .inl hb, fun x c e => (I'.ok.exf b hb).2 x c e, fun p hp => absurd (show p ∈ ([] : List (Addr × Obj)) ++ [] from hp) (by simp)⟩
  -- back at the def's, from any state of the block
  have back : ∀ {pins' : List (Addr × Obj)} {σ' : L2.St} {H5 : Hp} {t : Shared}, Inv (X.blk s3 H3 scope ce fp) pins' σ' H5 t → Inv X pins σ H5 t ∧ FpOk X pins H5 s3.heap.objs.size ∧ ∃ m, t.heap.Ns s3.heap.objs.size m := fun {pins' σ' H5 t} I6 => by
    have I7 : Inv X pins σ H5 t := I3.call' (ch := fp) I6.os I6.base I6.hok I6.bare fun b hb => ⟨(f3 b hb).1.2.2.2.1, (f3 b hb).1.2.1, (f3 b hb).1.2.2.2.2.1, (f3 b hb).1.2.2.2.2.2⟩
    have nC : H5 ce.locals = none := I6.free
    rw [cL] at nC
    obtain ⟨m, hn, _⟩ := I6.loc
    have hn : t.heap.Ns ce.locals m := hn
    rw [cL] at hn
    exact ⟨I7, I3.fpOk (Nat.le_refl _) nC, m, hn⟩
  -- an exception of the element
  have out : ∀ (u : Value) (t : Shared), XE (X.blk s3 H3 scope ce fp) Wb u t → notedBy (model X.prog X.w) X.A ce (fun e s' => postX (model X.prog X.w) X.A X.xe (EP X pins σ Q) (.ref D) ce (.error e) s') u t := fun u t xx => by
    obtain ⟨a, B, sI, pins', σ', H', cls, d, rfl, I6, nb, up, sky, na, os, ag, w⟩ := xx
    obtain ⟨I7, ⟨f0, f1, f2', f3', f4, f5⟩, m, hn⟩ := back I6
    have cN : s3.heap.objs.size ∉ frs X.stack := fun hm => by
      rcases List.mem_cons.mp (I3.stkSub _ hm) with z | z
      · exact f1 z
      · exact f2' z
    have hCB : ∀ o, sI.heap.get? s3.heap.objs.size = some o → B.get? s3.heap.objs.size = some o := fun o e => nb _ o e cN
    obtain ⟨oC, hoC⟩ : ∃ o, sI.heap.get? s3.heap.objs.size = some o := let ⟨o, _, _, e, _⟩ := hn; ⟨o, e⟩
    have hL : ((rawInt s3.heap.objs.size : Value) == rawInt X.env.locals) = false := by
      have z : s3.heap.objs.size ≠ X.env.locals := f1
      rw [beq_eq_false_iff_ne]
      intro q
      unfold rawInt at q
      injection q with q
      exact z (by exact_mod_cast q)
    -- noted
    have noted : wpAny (model X.prog X.w) X.A (noteFrame (.ref a) X.env) (fun _ t2 => ∃ h', t2 = { t with heap := h' } ∧ HandSPX.HeldZ B (X.env :: X.outer) a (Zc cls d) X.env.locals h' ∧ t.heap.UpToSlots h') (fun _ _ => False) t := by
      have sky : Sky B X.stack a (Zc cls d) ce.locals t.heap := sky
      rw [hst] at sky
      rcases sky with ⟨b1, b2, b3, oe, vs, e1, e2, e3, e4⟩ | ⟨b1, b2, b3, b4⟩ | ⟨b1, b2, b3, b4⟩
      · exact HandSPX.look_newZ Zc.steady hfr b3 hf e1 b1 b2 e3 e4 e2 fun h' k1 k2 => ⟨h', rfl, k1, k2⟩
      · exact note_any Zc.steady hfr hf (by simp [rawInt]) b1 b2 b3 b4 fun h' k1 k2 => ⟨h', rfl, k1, k2⟩
      · rw [cL] at b4
        exact note_any Zc.steady hfr hf hL b1 b2 b3 b4 fun h' k1 k2 => ⟨h', rfl, k1, k2⟩
    show wpAny _ _ (noteFrame (.ref a) ce) _ _ _
    rw [note_same cF]
    refine thnF noted fun _ t2 hh => ?_
    obtain ⟨h5, rfl, ⟨g1, g2, g3, g4⟩, up5⟩ := hh
    refine ⟨m, ?_, fun h6 sb => ?_⟩
    · rw [cL]
      exact hn.at fun o e => g1 _ o (hCB o e)
    · rw [cL] at sb
      have sb : ∀ b, b ≠ s3.heap.objs.size → h6.get? b = h5.get? b := sb.2
      obtain ⟨G, G1, G2⟩ := restrict sI.heap fun b => decide (b ≠ s3.heap.objs.size)
      obtain ⟨B2, B1, B3⟩ := restrict B fun b => decide (b ≠ s3.heap.objs.size)
      have GC : G.get? s3.heap.objs.size = none := G2 _ (by simp)
      have BC : B2.get? s3.heap.objs.size = none := B3 _ (by simp)
      have Gk : ∀ b, b ≠ s3.heap.objs.size → G.get? b = sI.heap.get? b := fun b hb => G1 b (decide_eq_true hb)
      have Bk : ∀ b, b ≠ s3.heap.objs.size → B2.get? b = B.get? b := fun b hb => B1 b (decide_eq_true hb)
      have Bn : ∀ b, B.get? b = none → B2.get? b = none := fun b hb => by
        by_cases z : b = s3.heap.objs.size
        · rw [z]; exact BC
        · rw [Bk b z]; exact hb
      have Bo : ∀ b o, B2.get? b = some o → b ≠ s3.heap.objs.size ∧ B.get? b = some o := fun b o e => by
        have z : b ≠ s3.heap.objs.size := fun z => by
          rw [z, BC] at e
          cases e
        exact ⟨z, by rw [← Bk b z]; exact e⟩
      have out_ : ∀ b, B.get? b = none → b ≠ s3.heap.objs.size := fun b hb z => by
        rw [z, hCB _ hoC] at hb
        cases hb
      have J : Inv X pins σ H' { sI with heap := G } := I7.turned (t' := sI.toks) (fun b o hb e => (Gk b hb).trans e) f0 f1 f3' f4 f5
      have F6 : h6.FunFrames B2 (X.env :: X.outer) := by
        refine ff_mono Bn ?_
        have gen : ∀ l : List PySem.Env, h5.FunFrames B l → h6.FunFrames B l := fun l => by
          induction l with
          | nil => exact fun _ => trivial
          | cons e r ih => exact fun ⟨z1, ⟨L, o, z2, z3, z4, z5⟩, z6⟩ => ⟨z1, ⟨L, o, z2, z3, (sb L (out_ L z3)).trans z4, z5⟩, ih z6⟩
        exact gen _ g3
      have S6 : B2.StaysIn h6 := fun b o e => (sb b (Bo b o e).1).trans (g1 b o (Bo b o e).2)
      obtain ⟨oe, vs, Tb, oT, ts, e1, e2, e3, e4, e5, e6, e7, e8, e9⟩ := g4
      have hT6 : HandSPX.TracedZ h6 B2 a (Zc cls d) (rawInt X.env.locals) := ⟨oe, vs, Tb, oT, ts, (sb a (out_ a g2)).trans e1, e2, e3, e4, Bn Tb e5, e6, (sb Tb (out_ Tb e5)).trans e7, e8, e9⟩
      unfold PySem.passOn
      refine wpAny_bind (wpAny_field ((sb a (out_ a g2)).trans e1) e3 e4 ?_)
      rw [if_neg (show ¬ ((Value.ref Tb == Value.none) = true) from by simp)]
      have fin : wpAny (model X.prog X.w) X.A (setFlight (.ref a) ce.frame) (fun _ t4 => wpAny (model X.prog X.w) X.A (throw (.ref a) : Sem Value) (fun _ _ => False) X.xe t4) X.xe { t with heap := h6 } := by
        rw [cF, hf]
        refine HandSPX.setFlight_anyZ S6 F6 hT6 fun h7 x1 x2 x3 x4 => wpAny_throw (tk _ _ ?_)
        refine ⟨a, B2, { sI with heap := G }, pins, σ, H', cls, d, rfl, J, fun b o e hb => ?_, fun b o e hnf => ?_, .inr (.inr ?_), na, os, ag, by rw [← hWb] at w; exact w⟩
        · have z : b ≠ s3.heap.objs.size := fun z => by
            have e : G.get? b = some o := e
            rw [z, GC] at e
            cases e
          rw [Bk b z]
          exact nb b o (by rw [← Gk b z]; exact e) hb
        · have e : G.get? b = some o := e
          have z : b ≠ s3.heap.objs.size := fun z => by
            rw [z, GC] at e
            cases e
          obtain ⟨sl, y⟩ := (up.trans up5) b o (by rw [← Gk b z]; exact e) hnf
          obtain ⟨sl2, y2⟩ := x4 b _ ((sb b z).trans y) hnf
          exact ⟨sl2, y2⟩
        · rw [hst]
          exact ⟨x1, Bn a g2, x2, x3⟩
      first
        | exact wpAny_bind (wpAny_pure (wpAny_bind fin))
        | exact wpAny_bind fin
  have loop : codeAny (model X.prog X.w) X.A (.compLoop (.ListComp elt [⟨tg, iter, ifs, 0⟩] scope pos) 0 (.ref it) (.ref D) ce) (postX (model X.prog X.w) X.A X.xe (EP X pins σ Q) (.ref D) ce) s4 := by
    refine compLoop_any (fun n t => ∃ i H', Inv (X.blk s3 H3 scope ce fp) [] (wipe σ (own.map (·.2))) H' t ∧ tn i t.heap ∧ (∀ b ∈ fp, H' b = none) ∧ Wm i n H') ?_ m0 ⟨0, H3, I4, st4, nfp, w0⟩
    rintro n s5 ⟨i, H5, I5, st5, n5, w5⟩
    rcases turn i n H5 w5 with ⟨stop, qq⟩ | ⟨go, Nx, hNx, step⟩
    · refine thnF (T.done (X.blk s3 H3 scope ce fp) rfl rfl rfl hc i [] s5 _ H5 (fun _ _ => False) I5 (stat I5 n5) st5 stop) fun r s6 hh => ?_
      obtain ⟨hr, I6⟩ := hh
      subst hr
      obtain ⟨I7, ⟨f0, f1, f2', f3', f4, f5⟩, m, hn⟩ := back I6
      refine ⟨m, by rw [cL]; exact hn, fun h6 sb => ?_⟩
      rw [cL] at sb
      exact ⟨.ref D, H5, I7.turned (t' := s6.toks) (fun b o hb e => (sb.2 b hb).trans e) f0 f1 f3' f4 f5, rfl, qq⟩
    · refine thnF (T.item (X.blk s3 H3 scope ce fp) rfl rfl rfl hc i [] s5 _ H5 (fun _ _ => False) I5 (stat I5 n5) st5 go) fun r s6 hh => ?_
      obtain ⟨u, hr, h6⟩ := hh
      subst hr
      refine thnF h6 fun _ s7 hh7 => ?_
      obtain ⟨x, H7, I7, r7, y7, st7, n7⟩ := hh7
      refine thnF (pg.run _ s7 _ H7 x u _ (I7.pinned (stat I7 n7) (T.obj _ _ st7)) r7 (step x H7 y7)) fun _ s8 hh8 => ?_
      obtain ⟨σ8, H8, I8, hw8, q8⟩ := hh8
      refine thnF (pt.run _ s8 σ8 H8 _ I8 q8) fun b s9 hh9 => ?_
      obtain ⟨H9, I9, q9⟩ := hh9
      have fin : ∀ {t : Shared} {H' : Hp}, Inv (X.blk s3 H3 scope ce fp) ([] ++ pinsAt fp s7.heap) σ8 H' t → Nx H' → ∃ m, m < n ∧ ∃ i H', Inv (X.blk s3 H3 scope ce fp) [] (wipe σ (own.map (·.2))) H' t ∧ tn i t.heap ∧ (∀ b ∈ fp, H' b = none) ∧ Wm i m H' := fun {t H'} I' nx => by
        obtain ⟨m', hm, w'⟩ := hNx H' nx
        have pin' : ∀ b ∈ fp, ∀ o, s7.heap.get? b = some o → t.heap.get? b = some o ∧ H' b = none := fun b hb o e => by
          have z := I'.pin (b, o) (List.mem_append_right _ (List.mem_append_right _ (mem_pinsAt hb e)))
          exact ⟨z.1, z.2.1⟩
        have hl : (wipe σ (own.map (·.2))).length = σ8.length := by rw [← hw8, wipe_length]
        have wk : ∀ (j : Nat) (v : V), (wipe σ (own.map (·.2)))[j]? = some (some v) → σ8[j]? = some (some v) := fun j v e => by
          rw [← hw8] at e
          exact (wipe_some e).1
        exact ⟨m', hm, i + 1, H', (I'.unpinned (pins := [])).weak hl wk, T.keep _ _ _ st7 fun b hb o e => (pin' b hb o e).1, fun b hb => let ⟨o, e, _⟩ := T.obj _ _ st7 b hb; (pin' b hb o e).2, w'⟩
      cases b with
      | false =>
        simp only [Bool.false_eq_true, if_false] at q9 ⊢
        exact fin I9 q9
      | true =>
        simp only [if_true] at q9 ⊢
        have tkb : Takes ((X.blk s3 H3 scope ce fp).wish (XE (X.blk s3 H3 scope ce fp) Wb)) Wb := fun u t xx => by
          obtain ⟨a, B, sI, pins', σ', H', cls, d, z1, z2, z3⟩ := xx
          exact ⟨a, B, sI, pins', σ', H', cls, d, z1, z2.unwish (X := X.blk s3 H3 scope ce fp), z3⟩
        refine wpAny_mono ((pe _ tkb).run _ s9 σ8 H9 _ (I9.wish _) q9) (fun z s10 hz => ?_) (fun u t xx => out u t xx)
        obtain ⟨yv, H10, I10, r10, acc, hD10, hz10, nx⟩ := hz
        exact thnF (app_ok (X := X.blk s3 H3 scope ce fp) (E := fun _ _ => False) (Q := fun _ t => ∃ m, m < n ∧ ∃ i H', Inv (X.blk s3 H3 scope ce fp) [] (wipe σ (own.map (·.2))) H' t ∧ tn i t.heap ∧ (∀ b ∈ fp, H' b = none) ∧ Wm i m H') (I10.unwish (X := X.blk s3 H3 scope ce fp)) hD10 hz10 r10 fun s11 I11 => fin I11 nx) fun _ _ z => z
  exact codeAny_compStart_list loop (T.self X.A 0 _ _ _ st4 loop)
end
end Rn
set_option Elab.async false
set_option linter.all false
set_option maxRecDepth 100000
set_option maxHeartbeats 4000000
namespace Rn
open PySem L2 PyProof.Rows

/-- the items made so far, then those of the rest; the element may raise -/
def lcFX (t : Tgt) (c : CB) (e : CE) (ρ : Env) : List D → List D → List Box → Res (List D)
  | [], acc, S => .ok acc S
  | d :: ds, acc, S => match t.put d ρ with
    | none => .no
    | some ρ1 => (c ρ1 S).nox.bind fun b S1 => if b = true then (e ρ1 S1).bind fun y S2 => (snoc acc y S2).bind (lcFX t c e ρ ds) else lcFX t c e ρ ds acc S1
def cLcX (src : CI) (t : Tgt) (c : CB) (e : CE) (ws : List Nat) : CL := fun ρ S => (src ρ S).bind fun ds S1 => lcFX t c e (wipeU ρ ws) ds [] S1
section
variable {X : Cx} {cm : Nat → Addr} {W : WX} {t : Tgt} {src : CI} {tc : CB} {ce : CE} {ws : List Nat}
theorem lcX_imp (ht : ∀ i ∈ t.ids, i ∈ ws) {σ : L2.St} {H : Hp} {Q : VK} (h : tF (Gx X cm) W (cLcX src t tc ce ws) σ H Q) : tLc (tI (Gx X cm) W src) (tG (Gx X cm) t) (tVb (Gx X cm) W0 tc) (tV (Gx X cm) (fun cls d _ H => W cls d σ H) ce) ws σ H Q := by
  obtain ⟨ρ, p, x0, hH, st, sl, k⟩ := h
  refine ⟨ρ, p, x0, hH, st, sl, (RPost.bind k).mono fun ds q0 sq0 eq0 k2 J hJ a ha => ?_⟩
  have slw := (sl.ext eq0).wipe ws
  have nx : ¬ q0.x a := fun z => sq0.fresh ha (.inl z)
  -- no list of the frame's own stands at a
  have no : ∀ (j : Nat) (ys : List D), (wipeU ρ ws)[j]? = some (some (.o ys)) → (wipe σ ws)[j]? ≠ some (some (.ref a)) := fun j ys hj hw => by
    obtain ⟨b, vs, h1, h2, _⟩ := slw.own hj
    rw [hw] at h1
    cases h1
    rw [ha] at h2
    cases h2
  refine ⟨fun i m H => ∃ (q : Pt) (acc : List D), q.H = H ∧ Mid (Gx X cm) x0 q0 q a (wipe σ ws) (wipeU ρ ws) acc ∧ i + m = ds.length ∧
    RPost (Gx X cm) q0 (WE W σ) (lcFX t tc ce (wipeU ρ ws) (ds.drop i) acc q.S) (fun xs q => ∀ (a : Addr) (vs : List V), q.H a = none → RpL (Gx X cm) q vs xs → Q (.ref a) (upd q.H a (.lst vs))),
    ⟨ds.length, _, [], rfl, Mid.start sq0 slw ha, Nat.zero_add _, k2⟩, ?_⟩
  rintro i m H ⟨q, acc, rfl, M, hm, k⟩
  have eqN : ExtS No q0 q := M.ex.mono fun _ h => h.elim
  by_cases hi : i < ds.length
  · have hd : ds[i]? = some ds[i] := List.getElem?_eq_getElem hi
    rw [List.drop_eq_getElem_cons hi] at k
    have k : RPost (Gx X cm) q0 (WE W σ) (match t.put ds[i] (wipeU ρ ws) with
      | none => .no
      | some ρ1 => (tc ρ1 q.S).nox.bind fun b S1 => if b = true then (ce ρ1 S1).bind fun y S2 => (snoc acc y S2).bind (lcFX t tc ce (wipeU ρ ws) (ds.drop (i + 1))) else lcFX t tc ce (wipeU ρ ws) (ds.drop (i + 1)) acc S1)
      (fun xs q => ∀ (a : Addr) (vs : List V), q.H a = none → RpL (Gx X cm) q vs xs → Q (.ref a) (upd q.H a (.lst vs))) := k
    refine .inr ⟨hJ.go q i M.st eqN hi, fun H => ∃ (q : Pt) (acc : List D), q.H = H ∧ Mid (Gx X cm) x0 q0 q a (wipe σ ws) (wipeU ρ ws) acc ∧ i + 1 + (m - 1) = ds.length ∧
      RPost (Gx X cm) q0 (WE W σ) (lcFX t tc ce (wipeU ρ ws) (ds.drop (i + 1)) acc q.S) (fun xs q => ∀ (a : Addr) (vs : List V), q.H a = none → RpL (Gx X cm) q vs xs → Q (.ref a) (upd q.H a (.lst vs))),
      fun H' h => ⟨m - 1, by omega, h⟩, fun x H' hy => ?_⟩
    obtain ⟨r, rfl, hS, sr, er, rx⟩ := hJ.yld q i x H' ds[i] M.st eqN hd hy
    have M1 := M.step sr er
    rw [← hS] at k
    cases ep : t.put ds[i] (wipeU ρ ws) with
    | none => rw [ep] at k; exact k.elim
    | some ρ1 =>
      rw [ep] at k
      obtain ⟨b, S1, eb, k⟩ := Res.nox_ok k
      refine ⟨wipeU ρ ws, r, x0, ds[i], ρ1, rfl, sr, M1.sl, rx, ep, fun σ1 sl1 g1 => ⟨wipe_agree g1 ht, ?_⟩⟩
      refine ⟨ρ1, r, x0, rfl, sr, sl1, ?_⟩
      rw [eb]
      intro u hu su eu
      have M2 := M1.step su eu
      rw [← hu] at k
      cases b with
      | false => exact ⟨u, acc, rfl, M2, by omega, k⟩
      | true =>
        refine ⟨ρ1, u, x0, rfl, su, sl1.ext eu, ?_⟩
        cases ey : ce ρ1 u.S with
        | no => rw [ey] at k; exact k.elim
        | ex y S2 =>
          rw [ey] at k
          intro z cls dx hz sz ez re
          have M3 := M2.step sz ez
          obtain ⟨r1, e1⟩ := sz.same (S' := z.S) (x' := q0.x) rfl (fun _ _ h => .inr h) (fun b hb => (M3.xs b).mpr (.inl hb))
          have k : ∀ (q : Pt) (cls : Value) (dx : Option Addr), q.S = S2 → StR (Gx X cm) q → Ext q0 q → ERel (Gx X cm) q y cls dx → W cls dx σ q.H := k
          exact k ⟨z.H, z.S, z.m, q0.x⟩ cls dx hz r1 ⟨M3.ex.trans (e1 _), rfl⟩ (re.ext (e1 No))
        | ok y S2 =>
        rw [ey] at k
        have k : RPost (Gx X cm) q0 (WE W σ) ((snoc acc y S2).bind (lcFX t tc ce (wipeU ρ ws) (ds.drop (i + 1)))) (fun xs q => ∀ (a : Addr) (vs : List V), q.H a = none → RpL (Gx X cm) q vs xs → Q (.ref a) (upd q.H a (.lst vs))) := k
        intro z hz sz ez v rv
        have M3 := M2.step sz ez
        rw [← hz] at k
        cases rv with
        | b _ _ => exact k.elim
        | o _ _ _ => exact k.elim
        | @v _ d rv =>
          have k : RPost (Gx X cm) q0 (WE W σ) ((if acc.length < sizeLine then Res.ok (acc ++ [d]) z.S else .no).bind (lcFX t tc ce (wipeU ρ ws) (ds.drop (i + 1))))
            (fun xs q => ∀ (a : Addr) (vs : List V), q.H a = none → RpL (Gx X cm) q vs xs → Q (.ref a) (upd q.H a (.lst vs))) := k
          by_cases hz2 : acc.length < sizeLine
          · rw [if_pos hz2] at k
            obtain ⟨vs, h1, h2, M4⟩ := M3.snoc nx no rv
            exact ⟨vs, h1, by rw [h2]; exact hz2, _, _, rfl, M4, by omega, k⟩
          · rw [if_neg hz2] at k
            exact k.elim
  · have z : i = ds.length := by omega
    subst z
    rw [List.drop_eq_nil_of_le (Nat.le_refl _)] at k
    obtain ⟨r, vs, h1, h2, h3, h4, h5, h6⟩ := M.fin sq0 ha
    have k2 := k r h1 h2 h3 a vs h4 h5
    rw [h6] at k2
    exact .inl ⟨hJ.stop q M.st eqN, k2⟩
theorem f_lcX {elt tg iter : Expr} {ifs : List Expr} {scope : Scope} {own : List (Str × Nat)} {pos : Pos} (hst : X.stack = X.env :: X.outer) (hf : X.env.frame = some X.env.locals) (tk : Takes X W)
    (hc : X.calm = true) (hN : X.N.Nodup) (hi : PI X tg iter (tI (Gx X cm) W src)) (ok : BlkOk X.N X.env.scope scope own)
    (hg : ∀ (s : Shared) (H : Hp) (C : Addr) (cl : List (Str × Addr)) (fp : List Addr), PG (X.blk s H scope (compEnvC scope cl C X.env) fp) tg (tG (Gx X cm) t))
    (ht : ∀ (s : Shared) (H : Hp) (C : Addr) (cl : List (Str × Addr)) (fp : List Addr), PTs (X.blk s H scope (compEnvC scope cl C X.env) fp) ifs (tVb (Gx X cm) W0 tc))
    (he : ∀ (s : Shared) (H : Hp) (C : Addr) (cl : List (Str × Addr)) (fp : List Addr) (Wb : WX) (xe : Value → Shared → Prop), Takes ((X.blk s H scope (compEnvC scope cl C X.env) fp).wish xe) Wb →
      PE ((X.blk s H scope (compEnvC scope cl C X.env) fp).wish xe) elt (tV (Gx X cm) Wb ce)) (hids : ∀ i ∈ t.ids, i ∈ own.map (·.2) := by decide) (hs : ∀ x, foldedSetIterable iter X.env x = pure x := by intro _; rfl) :
    PE X (.ListComp elt [⟨tg, iter, ifs, 0⟩] scope pos) (tF (Gx X cm) W (cLcX src t tc ce (own.map (·.2)))) :=
  pe_imp (pe_lcX (te := fun Wb => tV (Gx X cm) Wb ce) hst hf tk hc hN hi ok hg ht he hs) fun σ H Q h => lcX_imp hids h
end
end Rn
set_option Elab.async false
set_option linter.all false
set_option maxRecDepth 100000
set_option maxHeartbeats 4000000
namespace Rn
open PySem L2 PyProof.Rows

/-! ## methods that change a list in a box -/
def boxL (u : U) (S : List Box) : Option (Nat × List D) := match u with
  | .b n => match S[n]? with
    | some (.lst xs) => some (n, xs)
    | _ => none
  | _ => none
def mutB (f : MF) (u : U) (us : List U) (S : List Box) : Res U := match boxL u S with
  | some (n, xs) => match f S xs us with
    | some (xs', d) => .ok (.v d) (S.set n (.lst xs'))
    | none => .no
  | none => .no
def cMutB (f : MF) (co : CE) (cs : List CE) : CE := fun ρ S => (co ρ S).bind fun u S1 => if (boxL u S1).isSome = true then (evL cs ρ S1).bind fun us S2 => mutB f u us S2 else .no
theorem boxL_rd {G : Cn} {p : Pt} {n : Nat} {u : U} {v : V} {xs : List D} (st : StR G p) (r : Ru G p v u) (h : boxL u p.S = some (n, xs)) :
    v = .ref (p.m n) ∧ p.S[n]? = some (.lst xs) ∧ ∃ vs, p.H (p.m n) = some (.lst vs) ∧ RpL G p vs xs := by
  unfold boxL at h
  split at h
  · rename_i k
    split at h
    · rename_i ys hs
      cases h
      cases r with
      | b h1 h2 =>
        subst h2
        exact ⟨rfl, hs, st.ok n _ hs⟩
    · cases h
  · cases h
section
variable {X : Cx} {cm : Nat → Addr} {W : WX} {e : Expr} {co : CE} {cs : List CE} {f : MF} {r : V → List V → Hp → VK → Prop}
theorem mutB_step {W' : XK} {q : Pt} {u : U} {v : V} {us : List U} {vs : List V} {Q : VK} (M : MutOk X cm r f) (sq : StR (Gx X cm) q) (rv : Ru (Gx X cm) q v u) (ra : RuL (Gx X cm) q vs us)
    (k : RPost (Gx X cm) q W' (mutB f u us q.S) (fun d q => ∀ v, Ru (Gx X cm) q v d → Q v q.H)) : r v vs q.H Q := by
  unfold mutB at k
  split at k
  · rename_i n xs hb
    obtain ⟨rfl, hn, ws, h1, h2⟩ := boxL_rd sq rv hb
    split at k
    · rename_i xs' d hf
      refine M.ok q _ ws xs vs us xs' d _ sq h1 h2 ra hf fun vs' v rvs rd => ?_
      obtain ⟨s1, e1⟩ := sq.put (b' := .lst xs') (o := .lst vs') hn rfl fun t et ht => ⟨vs', ht, rvs.ext et.toExtS⟩
      exact k (q.put n (.lst vs') (.lst xs')) rfl s1 e1 v (.v (rd.ext e1.toExtS))
    · exact k.elim
  · exact k.elim
theorem e_mutB0 (M : MutOk X cm r f) (h : PE X e (tBM0 X.K "list" r (tV (Gx X cm) W co))) : PE X e (tV (Gx X cm) W (cMutB f co [])) := by
  refine pe_imp h fun σ H Q ⟨ρ, p, x0, hH, st, sl, k⟩ => ?_
  refine ⟨ρ, p, x0, hH, st, sl, (RPost.bind k).mono fun u q sq eq k2 v rv => ?_⟩
  by_cases hb : (boxL u q.S).isSome = true
  · rw [if_pos hb] at k2
    obtain ⟨⟨n, xs⟩, hb⟩ := Option.isSome_iff_exists.mp hb
    obtain ⟨rfl, hn, ws, h1, h2⟩ := boxL_rd sq rv hb
    exact ⟨.inl ⟨rfl, ws, SqL.of h1⟩, mutB_step M sq rv .nil k2⟩
  · rw [if_neg hb] at k2
    exact k2.elim
theorem e_mutB (M : MutOk X cm r f) (h : PE X e (tBM X.K "list" r (tV (Gx X cm) W co) (tVa (Gx X cm) W (evL cs)))) : PE X e (tV (Gx X cm) W (cMutB f co cs)) := by
  refine pe_imp h fun σ H Q ⟨ρ, p, x0, hH, st, sl, k⟩ => ?_
  refine ⟨ρ, p, x0, hH, st, sl, (RPost.bind k).mono fun u q sq eq k2 v rv => ?_⟩
  by_cases hb : (boxL u q.S).isSome = true
  · rw [if_pos hb] at k2
    obtain ⟨⟨n, xs⟩, hb⟩ := Option.isSome_iff_exists.mp hb
    obtain ⟨rfl, hn, ws, h1, h2⟩ := boxL_rd sq rv hb
    exact ⟨.inl ⟨rfl, ws, SqL.of h1⟩, ρ, q, x0, rfl, sq, sl.ext eq, (RPost.bind k2).mono fun us t st2 et k3 vs rvs => mutB_step M st2 (rv.ext et) rvs k3⟩
  · rw [if_neg hb] at k2
    exact k2.elim
end
end Rn
set_option Elab.async false
set_option linter.all false
set_option maxRecDepth 100000
set_option maxHeartbeats 4000000
namespace Rn
open PySem L2 PyProof.Rows

theorem ItOk.str {G : Cn} {p : Pt} {z : Str} : ItOk G p (Its z) (z.cps.toList.map fun c => .str ⟨#[c]⟩) where
  go := fun q i sq e hi => by
    show i < z.cps.size
    rw [List.length_map, Array.length_toList] at hi
    exact hi
  yld := fun q i x H' d sq e hd ⟨h1, c, h2, h3⟩ => by
    subst h1
    subst h3
    rw [List.getElem?_map, Array.getElem?_toList, h2] at hd
    cases hd
    exact ⟨q, rfl, rfl, sq, Ext.refl q, .str _⟩
  stop := fun q sq e => by
    show z.cps.size ≤ _
    rw [List.length_map, Array.length_toList]
    exact Nat.le_refl _
/-- a list or a tuple -/
def itQ (u : U) : Option (List D) := match u with
  | .v (.tup ds) => some ds
  | u => itL u
section
variable {X : Cx} {cm : Nat → Addr} {W : WX} {pos : Pos} {tg l : Expr} {ca : CE}
theorem i_str (hl : PE X l (tV (Gx X cm) W ca)) : PI X tg l (tI (Gx X cm) W (cIt itS ca)) := by
  refine pi_imp (pi_str hl) fun σ H R ⟨ρ, p, x0, hH, st, sl, k⟩ => ?_
  refine ⟨ρ, p, x0, hH, st, sl, (RPost.bind k).mono fun u q sq eq k2 v rv => ?_⟩
  unfold itS at k2
  split at k2
  · rename_i z
    cases rv with
    | v rv => cases rv; exact ⟨z, rfl, RPost.here sq k2 _ ItOk.str⟩
  · exact k2.elim
theorem i_seq (hl : PE X l (tV (Gx X cm) W ca)) : PI X tg l (tI (Gx X cm) W (cIt itQ ca)) := by
  refine ⟨fun pins s σ H R I ⟨ρ, p, x0, hH, st, sl, k⟩ => ?_⟩
  cases e : ca ρ p.S with
  | no => unfold cIt at k; rw [e] at k; exact k.elim
  | ex y S =>
    refine (i_list (tg := tg) hl).run pins s σ H R I ⟨ρ, p, x0, hH, st, sl, ?_⟩
    unfold cIt at k ⊢
    rw [e] at k ⊢
    exact k
  | ok u S =>
    by_cases h : ∃ ds, u = .v (.tup ds)
    · obtain ⟨ds, rfl⟩ := h
      refine (i_tup (tg := tg) hl).run pins s σ H R I ⟨ρ, p, x0, hH, st, sl, ?_⟩
      unfold cIt at k ⊢
      rw [e] at k ⊢
      exact k
    · refine (i_list (tg := tg) hl).run pins s σ H R I ⟨ρ, p, x0, hH, st, sl, ?_⟩
      unfold cIt at k ⊢
      rw [e] at k ⊢
      have z : itQ u = itL u := by
        unfold itQ
        split
        · rename_i ds
          exact absurd ⟨ds, rfl⟩ h
        · rfl
      have k : RPost (Gx X cm) p (WE W σ) (optI (itQ u) S) _ := k
      rw [z] at k
      exact k
theorem takes_W0 {Y : Cx} : Takes Y W0 := fun u s' ⟨a, B, sI, pins, σ, H, cls, d, e, I, nb, up, sky, na, os, ag, w⟩ => w.elim
theorem e_gl {x : Str} {p : Pos} {v : V} {d : D} (hg : Gl X x) (h : ∃ u, X.mg x = some u ∧ RelV v u) (r : ∀ p, Rp (Gx X cm) p v d) (hd : (x == ("__debug__" : Str)) = false := by decide) : PE X (.Name x p) (tV (Gx X cm) W (cK d)) :=
  e_con (by obtain ⟨u, hm, ru⟩ := h; exact pe_glob hg hm ru hd) r
theorem e_ty {x : Str} {T : String} {p : Pos} (hg : Gl X x) (hm : X.mg x = none) (hv : bootBuiltins x = some (.type T)) (hn : x ≠ "__name__" := by decide) (hd : (x == ("__debug__" : Str)) = false := by decide) : PE X (.Name x p) (tV (Gx X cm) W (cK (.ty T))) :=
  e_con (pe_bltn (v := .ty T) hg hm hv rfl hn hd) fun _ => .ty T
end
section
variable {P : Program} {w : World} {K : PySem.W.Frag} {mg : Str → Option Value} {base : Heap} {cm : Nat → Addr}
/-- a def by its body, the context as it is made -/
theorem fn_bodyC {x qual : Str} {st : Stmt} {f : Addr} {fd : FuncData} {N ps : List Str} {k : Nat} {c : CS} (F : Fun K x qual st f fd) (S : FnScope N ps (defScope st)) (hl : ps.length ≤ N.length)
    (hb : ∀ (cdv : Value) (A : Around) (outer : List PySem.Env) (s : Shared) (H : Hp) (E : XK), Room k (A.deeper (envOfC qual (defScope st) s.heap.objs.size f cdv)) →
      Takes (cxOf (L2.CX P w) P w K mg base N qual (defScope st) f cdv A outer s H E) (Wc E) →
      PassesOwn (model P w) (A.deeper (envOfC qual (defScope st) s.heap.objs.size f cdv)) (cxOf (L2.CX P w) P w K mg base N qual (defScope st) f cdv A outer s H E).env (cxOf (L2.CX P w) P w K mg base N qual (defScope st) f cdv A outer s H E).xe →
      PSs (cxOf (L2.CX P w) P w K mg base N qual (defScope st) f cdv A outer s H E) (defBody st) (tS ⟨K, cm⟩ (Wc E) c)) :
    FnOk P w K mg base (L2.CX P w) (k + 1) f fd ps (spV ⟨K, cm⟩ ps.length (runF N.length c)) := by
  refine F.okX S (fun vs H Q E ⟨us, p, _, _, r, hn, _⟩ => r.length.trans hn) (fun cdv A outer s H vs Q E hr ⟨us, p, hH, sp, r, hn, ha, k0⟩ => ?_)
  refine ⟨tS ⟨K, cm⟩ (Wc E) c, hb cdv A outer s H E hr (takes_of rfl rfl rfl rfl) (passes_of rfl), ?_⟩
  refine ⟨_, p, p.x, hH, sp, start_sl r ha (by omega), ?_⟩
  unfold runF at k0
  cases e : c (us.map some ++ List.replicate (N.length - us.length) none) p.S with
  | nx ρ S' =>
    rw [e] at k0
    intro q σ h1 h2 h3 h4
    obtain ⟨s1, e1, e2⟩ := leave_pt h2 h3 h4.sub
    exact k0 ⟨q.H, q.S, q.m, p.x⟩ h1 s1 e1 .non rfl (.v .non)
  | rt d S' =>
    rw [e] at k0
    intro q v h1 h2 h3 h4 h5 h6
    obtain ⟨s1, e1, e2⟩ := leave_pt h2 h3 h4
    exact k0 ⟨q.H, q.S, q.m, p.x⟩ h1 s1 e1 v h5 (h6.extS (e2 No) h5)
  | ex x ρ S' =>
    rw [e] at k0
    intro q σ cls dx h1 h2 h3 h4 h5
    obtain ⟨s1, e1, e2⟩ := leave_pt h2 h3 h4.sub
    exact k0 ⟨q.H, q.S, q.m, p.x⟩ cls dx h1 s1 e1 (h5.ext (e2 No))
  | bk ρ S' => rw [e] at k0; exact k0.elim
  | ct ρ S' => rw [e] at k0; exact k0.elim
  | no => rw [e] at k0; exact k0.elim
/-- nothing asked -/
theorem fn_no {f : Addr} {fd : FuncData} {ps : List Str} {k : Nat} {C : CXT} : FnOk P w K mg base C k f fd ps (spV ⟨K, cm⟩ ps.length fun _ _ => .no) := by
  have no : ∀ vs H Q E, ¬ spV ⟨K, cm⟩ ps.length (fun _ _ => .no) vs H Q E := fun vs H Q E ⟨us, p, hH, sp, r, hn, ha, k⟩ => k
  exact ⟨fun vs H Q E h => absurd h (no vs H Q E), fun A outer s H args us vs Q E _ _ _ _ h => absurd h (no vs H Q E)⟩
end
end Rn
set_option Elab.async false
set_option linter.all false
set_option maxRecDepth 100000
set_option maxHeartbeats 4000000
namespace Rn
open PySem L2 PyProof.Rows
/-- list(x): a new list -/
def fLst : OF := fun us S => match us with
  | [u] => (asQ u S).map .lst
  | _ => none
section
variable {X : Cx} {cm : Nat → Addr}
theorem c_lst : CallR X (.type "list") (rC (Gx X cm) fLst) := by
  intro pins s σ H vs us0 Q I rv ⟨us, p, d, hH, sp, rl, ho, k⟩
  subst hH
  unfold fLst at ho
  split at ho
  · rename_i u
    cases rl with
    | cons r1 rl =>
      cases rl
      cases e : asQ u p.S with
      | none => rw [e] at ho; cases ho
      | some ds =>
        rw [e] at ho
        cases ho
        obtain ⟨a, ws, rfl, h, l⟩ := rd_Q sp r1 e
        refine call_list_of pins s σ _ _ _ Q I rv ⟨a, ws, rfl, h, fun n hn => ?_⟩
        obtain ⟨s1, e1, n1⟩ := sp.new (.lst ws) hn
        exact k (p.new n (.lst ws)) (.ref n) rfl s1 e1 (.lst upd_same n1 (l.ext e1.toExtS))
  · cases ho
end
end Rn
set_option Elab.async false
set_option linter.all false
set_option maxRecDepth 100000
set_option maxHeartbeats 4000000
/-! the law's own def: called from the outside, where no repr runs -/
namespace Rn
open PySem L2 PySem.Spec PyProof.Rows
/-- a promise for the call from the outside alone -/
structure FnL (P : Program) (w : World) (K : PySem.W.Frag) (mg : Str → Option Value) (base : Heap) (f : Addr) (fd : FuncData) (ps : List Str) (sp : Sp) : Prop where
  run : ∀ (outer : List PySem.Env) (s : Shared) (H : Hp) (args : Args) (us : List Value) (vs : List V) (Q : VK) (E : XK), Env0 P w K mg base callerA outer s H → BindsTo s fd args (ps.zip us) → Vals vs us → sp vs H Q E →
    codeAny (model P w) callerA (.call (.ref f) args) (CR (L2.CX P w) outer P w H s Q E) s
section
variable {P : Program} {w : World} {K : PySem.W.Frag} {mg : Str → Option Value} {base : Heap} {cm : Nat → Addr}
theorem fn_L {x qual : Str} {st : Stmt} {f : Addr} {fd : FuncData} {N ps : List Str} {k : Nat} {sp : Sp} (F : Fun K x qual st f fd) (S : FnScope N ps (defScope st)) (hr : Room (k + 1) callerA) (len : ∀ vs H Q E, sp vs H Q E → vs.length = ps.length)
    (hbody : ∀ (cdv : Value) (outer : List PySem.Env) (s : Shared) (H : Hp) (vs : List V) (Q : VK) (E : XK), sp vs H Q E →
      ∃ t, PSs (cxOf (L2.CX P w) P w K mg base N qual (defScope st) f cdv callerA outer s H E) (defBody st) t ∧ t { nx := fun _ H' => Q .non H', rt := Q } (start N vs) H) : FnL P w K mg base f fd ps sp := by
  obtain ⟨oc, od, kV, doc, pm, an, cdv, ct, osl, rfl, lk, hcd⟩ := F.ex
  refine ⟨fun outer s H args us vs Q E e0 hb r hsp => ?_⟩
  have hl := len _ _ _ _ hsp
  have old : ∀ b o, base.get? b = some o → s.heap.get? b = some o := fun b o e => (e0.bs b o e).1
  have KX : K.In s.heap := e0.mod.kin.keeps old
  have hkind : ∀ y ∈ ps.zip us, (defScope st).names.lookup y.1 = some .local ∨ ((defScope st).names.lookup y.1 = some .cell ∧ ((cellsFrom (s.heap.objs.size + 1) (defScope st).names []).lookup y.1).isSome = true) := fun y hy => by
    obtain ⟨n, v⟩ := y
    rcases S.par n (List.of_mem_zip hy).1 with q | q
    · exact .inl q
    · exact .inr ⟨q, PySem.W.cellsFrom_some _ _ _ (.inl q)⟩
  refine codeAny_call_function hr.depth (KX _ _ lk) rfl S.co S.gen rfl (PySem.W.codeRec_of KX hcd) (hb _ _ _ _ ?_)
  refine wpAny_newFunctionEnv_cells S.kind hkind fun env he s1 x => ?_
  subst he
  refine ⟨(e0.mod.nolimit.keeps old).keeps x.toInCall.keep, codeAny_func ?_⟩
  obtain ⟨t, ht, hq⟩ := hbody cdv outer s H vs Q E hsp
  have I : Inv (cxOf (L2.CX P w) P w K mg base N qual (defScope st) f cdv callerA outer s H E) [] (L2.start N vs) H s1 := inv_start S hr.hd e0 hl r x
  refine wpAny_mono (ht.run [] s1 (L2.start N vs) H _ I hq) (fun fl s' hs => ?_) fun e s' hs => hs
  cases fl with
  | ret u =>
    obtain ⟨v, σ', H', J, rv, q⟩ := hs
    exact ⟨v, H', J.os, J.bare, J.base, J.hok, rv, q⟩
  | next =>
    obtain ⟨σ', H', J, q⟩ := hs
    exact ⟨V.non, H', J.os, J.bare, J.base, J.hok, rfl, q⟩
  | brk => obtain ⟨_, _, _, q⟩ := hs; exact False.elim q
  | cont => obtain ⟨_, _, _, q⟩ := hs; exact False.elim q
theorem fn_bodyL {x qual : Str} {st : Stmt} {f : Addr} {fd : FuncData} {N ps : List Str} {k : Nat} {c : CS} (F : Fun K x qual st f fd) (S : FnScope N ps (defScope st)) (hl : ps.length ≤ N.length) (hr0 : Room (k + 1) callerA)
    (hb : ∀ (cdv : Value) (outer : List PySem.Env) (s : Shared) (H : Hp) (E : XK), Room k (callerA.deeper (envOfC qual (defScope st) s.heap.objs.size f cdv)) → (callerA.deeper (envOfC qual (defScope st) s.heap.objs.size f cdv)).guards = some [] →
      Takes (cxOf (L2.CX P w) P w K mg base N qual (defScope st) f cdv callerA outer s H E) (Wc E) →
      PassesOwn (model P w) (callerA.deeper (envOfC qual (defScope st) s.heap.objs.size f cdv)) (cxOf (L2.CX P w) P w K mg base N qual (defScope st) f cdv callerA outer s H E).env (cxOf (L2.CX P w) P w K mg base N qual (defScope st) f cdv callerA outer s H E).xe →
      PSs (cxOf (L2.CX P w) P w K mg base N qual (defScope st) f cdv callerA outer s H E) (defBody st) (tS ⟨K, cm⟩ (Wc E) c)) :
    FnL P w K mg base f fd ps (spV ⟨K, cm⟩ ps.length (runF N.length c)) := by
  refine fn_L F S hr0 (fun vs H Q E ⟨us, p, _, _, r, hn, _⟩ => r.length.trans hn) (fun cdv outer s H vs Q E ⟨us, p, hH, sp, r, hn, ha, k0⟩ => ?_)
  refine ⟨tS ⟨K, cm⟩ (Wc E) c, hb cdv outer s H E (hr0.deeper _) rfl (takes_of rfl rfl rfl rfl) (passes_of rfl), ?_⟩
  refine ⟨_, p, p.x, hH, sp, start_sl r ha (by omega), ?_⟩
  unfold runF at k0
  cases e : c (us.map some ++ List.replicate (N.length - us.length) none) p.S with
  | nx ρ S' =>
    rw [e] at k0
    intro q σ h1 h2 h3 h4
    obtain ⟨s1, e1, e2⟩ := leave_pt h2 h3 h4.sub
    exact k0 ⟨q.H, q.S, q.m, p.x⟩ h1 s1 e1 .non rfl (.v .non)
  | rt d S' =>
    rw [e] at k0
    intro q v h1 h2 h3 h4 h5 h6
    obtain ⟨s1, e1, e2⟩ := leave_pt h2 h3 h4
    exact k0 ⟨q.H, q.S, q.m, p.x⟩ h1 s1 e1 v h5 (h6.extS (e2 No) h5)
  | ex x ρ S' =>
    rw [e] at k0
    intro q σ cls dx h1 h2 h3 h4 h5
    obtain ⟨s1, e1, e2⟩ := leave_pt h2 h3 h4.sub
    exact k0 ⟨q.H, q.S, q.m, p.x⟩ cls dx h1 s1 e1 (h5.ext (e2 No))
  | bk ρ S' => rw [e] at k0; exact k0.elim
  | ct ρ S' => rw [e] at k0; exact k0.elim
  | no => rw [e] at k0; exact k0.elim
/-- the call of the law from the outside -/
theorem law_callL {mb : Str → Option Value} {fa a : Addr} {fd : FuncData} {x : Str} {sp : Sp} {s₁ : Shared} {vs : List Value} {ns : List Int} (KX : K.In s₁.heap) (hns : s₁.heap.Ns mainGlobals mg) (hb : s₁.heap.Ns builtinsNs mb)
    (hbb : ∀ x : Str, x ≠ "__name__" → mb x = bootBuiltins x) (hlim : s₁.heap.NoLimit) (hnd : s₁.heap.NoDigits) (hg : s₁.gens = #[]) (ha : s₁.heap.get? a = some { cls := .type "list", data := .seq vs.toArray }) (hi : IntsAre vs ns) (hl : ns.length ≤ sizeLine)
    (F : ∀ base : Heap, K.In base → base.Ns mainGlobals mg → base.NoDigits → FnL P w K mg base fa fd [x] sp) (hbind : ∀ (s : Shared) (u : Value), BindsTo s fd ⟨[u], []⟩ [(x, u)])
    (hsp : ∀ H : Hp, Only H → SqL K H a (ns.map V.int) → sp [.ref a] H (fun v _ => v = .bl true) fun _ _ _ => False) :
    codeAny (model P w) callerA (.call (.ref fa) ⟨[.ref a], []⟩) (fun r s' => r = .ok (.ret (.bool true)) ∧ OldK s₁.heap s'.heap ∧ s'.os = s₁.os ∧ AllBare s'.gens) s₁ := by
  have rv := vals_ints hi
  have lenV := hi.length
  have core : ∀ H : Hp, Only H → SqL K H a (ns.map V.int) → HOk P w H s₁.heap → (∀ b, H b ≠ none → b = a) → (H a ≠ none → K.lookup a = none) →
      codeAny (model P w) callerA (.call (.ref fa) ⟨[.ref a], []⟩) (fun r s' => r = .ok (.ret (.bool true)) ∧ OldK s₁.heap s'.heap ∧ s'.os = s₁.os ∧ AllBare s'.gens) s₁ := by
    intro H hO hS hok hA hK
    have only_a : ∀ b, b ≠ a → H b = none := fun b hne => by
      cases q : H b with
      | none => rfl
      | some u => exact absurd (hA b (by rw [q]; simp)) hne
    have keep : ∀ {b : Addr} {m : Str → Option Value}, s₁.heap.Ns b m → (hidT s₁.heap H).Ns b m := fun {b m} hn => by
      obtain ⟨o, es, ep, e, d, r⟩ := hn
      refine ⟨o, es, ep, hidT_get e (only_a b fun z => ?_), d, r⟩
      rw [z, ha] at e
      cases e
      have d' : Data.seq vs.toArray _ = Data.dict es ep := d
      cases d'
    have inK : K.In (hidT s₁.heap H) := fun b o e => by
      refine hidT_get (KX b o e) ?_
      by_cases z : b = a
      · cases q : H b with
        | none => rfl
        | some u =>
          rw [z] at e q
          rw [hK (by rw [q]; simp)] at e
          cases e
      · exact only_a b z
    have hM : Mod K mg (hidT s₁.heap H) := ⟨inK, keep hns, ⟨mb, keep hb, hbb⟩, let ⟨mc, h1, h2⟩ := hlim; ⟨mc, keep h1, h2⟩⟩
    have hND : (hidT s₁.heap H).NoDigits := let ⟨mc, h1, h2⟩ := hnd; ⟨mc, keep h1, h2⟩
    have e0 : Env0 P w K mg (hidT s₁.heap H) callerA [] s₁ H :=
      ⟨rfl, hM, fun b o e => of_hidT e, Nat.le_of_eq (hidT_size _ _), trivial, fun b hb => absurd (show b ∈ ([] : List Addr) from hb) (by simp), hok, .of_eq hg⟩
    refine codeAny_mono ((F _ inK (keep hns) hND).run [] s₁ H ⟨[.ref a], []⟩ [.ref a] [.ref a] _ _ e0 (hbind s₁ (.ref a)) (.cons rfl .nil) (hsp H hO hS)) fun r s' h => ?_
    cases r with
    | error e =>
      obtain ⟨_, _, _, _, _, _, _, _, _, _, _, _, z⟩ := h
      exact z.elim
    | ok fl =>
      cases fl with
      | next => exact False.elim h
      | brk => exact False.elim h
      | cont => exact False.elim h
      | ret u =>
        obtain ⟨v, H', os, bare, un, hok', r', q⟩ := h
        have q' : v = .bl true := q
        subst q'
        obtain rfl : u = Value.bool true := r'
        refine ⟨rfl, OldK.of_keep fun b o e => ?_, os, bare⟩
        cases q2 : H b with
        | none => exact un.keep b o e q2 (fun z => absurd (show b ∈ ([] : List Addr) from z) (by simp)) (by simp)
        | some u =>
          rcases hO b with z | ⟨ob, xs, z⟩
          · rw [q2] at z
            cases z
          · obtain ⟨e1, _⟩ := hok b _ z
            obtain ⟨e2, _⟩ := hok' b _ (un.frzs b ob _ z)
            rw [e] at e1
            cases e1
            exact e2
  cases hk : K.lookup a with
  | some o =>
    have e := KX a o hk
    rw [ha] at e
    cases e
    have none_ : ∀ (b : Addr) (u : HO), (fun _ => none : Hp) b = some u → False := fun b u z => by
      have z' : (none : Option HO) = some u := z
      cases z'
    exact core (fun _ => none) (fun _ => .inl rfl) (.inr ⟨_, vs.toArray, _, hk, rfl, rfl, rfl, by rw [List.size_toArray, lenV]; exact hl, by simpa using rv⟩) (fun b u z => (none_ b u z).elim) (fun b z => absurd rfl z) fun z => absurd rfl z
  | none =>
    have at_a : ∀ {b : Addr} {u : HO}, (fun b => if b = a then some (.frz { cls := .type "list", data := .seq vs.toArray } (.lst (ns.map V.int))) else none : Hp) b = some u → b = a := fun {b u} z => by
      by_cases hb : b = a
      · exact hb
      · have z' := (if_neg hb).symm.trans z
        cases z'
    refine core (fun b => if b = a then some (.frz { cls := .type "list", data := .seq vs.toArray } (.lst (ns.map V.int))) else none) (fun b => ?_) (.inl (.inr ⟨_, if_pos rfl⟩)) (fun b u z => ?_) (fun b z => ?_) fun _ => hk
    · by_cases hb : b = a
      · exact .inr ⟨_, _, if_pos hb⟩
      · exact .inl (if_neg hb)
    · have hb := at_a z
      subst hb
      have z' := (if_pos rfl).symm.trans z
      cases z'
      exact ⟨ha, by rw [List.length_map]; exact hl, vs, _, rv, ha⟩
    · cases q : (fun b => if b = a then some (.frz { cls := .type "list", data := .seq vs.toArray } (.lst (ns.map V.int))) else none : Hp) b with
      | none => exact absurd q z
      | some u => exact at_a q
end
/-- the goal behind the head -/
theorem walk_L {l : PySem.W.OpenLaw} {n : Nat} {q : Program} {loose : List Str} {XP : (Str → Option Value) → Heap → Prop} {YP : World → Heap → Prop} {d : DefRec} {K : Params → PySem.W.Frag} {sp : World → Sp} {x : Str} (hn : l.most = some n) (hn2 : n ≤ sizeLine)
    (hdf : d.params.defaults = []) (hY : ∀ (w : World) (h : Heap), YP w h → (K w.params).In h)
    (F : ∀ (w : World) (mg : Str → Option Value) (fa : Addr) (h : Heap), (K w.params).In h → h.Ns mainGlobals mg → mg d.name = some (.ref fa) →
      ∃ fd : FuncData, (∀ (s : Shared) (u : Value), BindsTo s fd ⟨[u], []⟩ [(x, u)]) ∧ ∀ base : Heap, (K w.params).In base → base.Ns mainGlobals mg → base.NoDigits → FnL l.prog w (K w.params) mg base fa fd [x] (sp w))
    (hsp : ∀ (w : World) (H : Hp) (a : Addr) (ns : List Int), ns.length ≤ n → Only H → SqL (K w.params) H a (ns.map V.int) → sp w [.ref a] H (fun v _ => v = .bl true) fun _ _ _ => False) :
    PySem.W.WalkO q loose XP YP l.row.toRowW d [] (fun f vs => PySem.call f vs) := by
  refine Att.attach_call hn hdf fun w s₀ s₁ mg mb fa o pm cd doc a vs ns G Y ho hd hcd hmg hobj hints hlen hg => ?_
  have KX := hY w _ Y
  obtain ⟨fd, hb, hF⟩ := F w mg fa _ KX G.T.g hmg
  exact law_callL KX G.T.g G.T.b G.T.builtins G.T.nolimit G.T.nodigits hg hobj hints (Nat.le_trans hlen hn2) hF hb fun H hO hS => hsp w H a ns hlen hO hS
/-- the script as the law gets it -/
theorem sp_script {G : Cn} {F : CF} {H : Hp} {a : Addr} {ns : List Int} (hO : Only H) (hS : SqL G.K H a (ns.map V.int)) (hl : ns.length ≤ sizeLine) (h : ∃ S, F [.v (.con (ns.map .int))] [] = .ok (.v (.bl true)) S) :
    spV G 1 F [.ref a] H (fun v _ => v = .bl true) (fun _ _ _ => False) := by
  obtain ⟨S, h⟩ := h
  have st : StR G ⟨H, [], fun _ => 0, fun _ => False⟩ := ⟨fun n b hn => by simp at hn, fun i j b c hi => by simp at hi, fun n b hn => by simp at hn, fun a z => z.elim⟩
  have nl : ¬ Live ⟨H, [], fun _ => 0, fun _ => False⟩ a := fun z => by
    rcases z with z | ⟨n, b, hn, _⟩
    · exact z.elim
    · simp at hn
  have rl : ∀ ns : List Int, RpL G ⟨H, [], fun _ => 0, fun _ => False⟩ (ns.map V.int) (ns.map .int) := fun ns => by
    induction ns with
    | nil => exact .nil
    | cons n ns ih => exact .cons (.int n) ih
  have r : Rp G ⟨H, [], fun _ => 0, fun _ => False⟩ (.ref a) (.con (ns.map .int)) := by
    rcases hS with (hS | ⟨o, hS⟩) | hS
    · rcases hO a with z | ⟨o, xs, z⟩
      · rw [hS] at z; cases z
      · rw [hS] at z; cases z
    · exact .con ⟨o, hS⟩ nl (rl ns)
    · obtain ⟨o, its, n, h1, h2, h3, h4, h5, h6⟩ := hS
      exact .conK ⟨o, its, n, h1, h2, h3, h4, h5, h6⟩ (rl ns)
  refine ⟨[.v (.con (ns.map .int))], _, rfl, st, .cons (.v r) .nil, rfl, rfl, ?_⟩
  show RPost G _ _ (F _ []) _
  rw [h]
  intro q _ _ _ v _ rv
  cases rv with
  | v rv => cases rv; rfl
end Rn
set_option Elab.async false
set_option linter.all false
set_option maxRecDepth 100000
set_option maxHeartbeats 8000000
namespace Rn
open PySem L2 PyProof.Rows
def top (i : Nat) : Stmt := PySem.Challenge.pw_runsabreast_k20_texts_of_tuples.main.body.getD i (.Pass ⟨0, 0, 0, 0⟩)
/-- where all stands -/
structure Ad where
  a_RunError : Addr
  a_BadNumber : Addr
  a_Malformed : Addr
  a_Reading : Addr
  f_Malformed__init : Addr
  d_Malformed__init : FuncData
  f_has_text : Addr
  d_has_text : FuncData
  f_term_text : Addr
  d_term_text : FuncData
  f_Reading__init : Addr
  d_Reading__init : FuncData
  f_Reading_next_sign : Addr
  d_Reading_next_sign : FuncData
  f_Reading_is_at : Addr
  d_Reading_is_at : FuncData
  f_Reading_take : Addr
  d_Reading_take : FuncData
  f_Reading_integer : Addr
  d_Reading_integer : FuncData
  f_Reading_term : Addr
  d_Reading_term : FuncData
  f_Reading_told_rows : Addr
  d_Reading_told_rows : FuncData
  f_read_term : Addr
  d_read_term : FuncData
  f_law_number : Addr
  d_law_number : FuncData
  f_law_draws : Addr
  d_law_draws : FuncData
  f_law_next : Addr
  d_law_next : FuncData
  f_law_more : Addr
  d_law_more : FuncData
  f_law_pick : Addr
  d_law_pick : FuncData
  f_law_term : Addr
  d_law_term : FuncData
  f_law_text : Addr
  d_law_text : FuncData
  f_law_integer : Addr
  d_law_integer : FuncData
  f_law_read : Addr
  d_law_read : FuncData
  f_law_entries : Addr
  d_law_entries : FuncData
  f_law_due : Addr
  d_law_due : FuncData
  f_law_told : Addr
  d_law_told : FuncData
  f_law_refused : Addr
  d_law_refused : FuncData
  f_law : Addr
  d_law : FuncData
def Ad.cm (a : Ad) : Nat → Addr
  | 0 => a.a_RunError
  | 1 => a.a_BadNumber
  | 2 => a.a_Malformed
  | 3 => a.a_Reading
  | _ => 0
abbrev n_Malformed___init__ : List Str := [("self" : Str), ("at" : Str)]
abbrev p_Malformed___init__ : List Str := [("self" : Str), ("at" : Str)]
theorem sc_Malformed__init : FnScope n_Malformed___init__ p_Malformed___init__ (defScope (inClass (top 3) 0)) := ⟨rfl, rfl, rfl, by decide +kernel, rfl, by decide +kernel, by decide +kernel⟩
abbrev n_has_text : List Str := [("number" : Str), ("bound" : Str), ("_" : Str)]
abbrev p_has_text : List Str := [("number" : Str)]
theorem sc_has_text : FnScope n_has_text p_has_text (defScope (top 13)) := ⟨rfl, rfl, rfl, by decide +kernel, rfl, by decide +kernel, by decide +kernel⟩
abbrev n_term_text : List Str := [("term" : Str), ("entry" : Str), ("sign" : Str)]
abbrev p_term_text : List Str := [("term" : Str)]
theorem sc_term_text : FnScope n_term_text p_term_text (defScope (top 14)) := ⟨rfl, rfl, rfl, by decide +kernel, rfl, by decide +kernel, by decide +kernel⟩
abbrev n_Reading___init__ : List Str := [("self" : Str), ("text" : Str)]
abbrev p_Reading___init__ : List Str := [("self" : Str), ("text" : Str)]
theorem sc_Reading__init : FnScope n_Reading___init__ p_Reading___init__ (defScope (inClass (top 15) 0)) := ⟨rfl, rfl, rfl, by decide +kernel, rfl, by decide +kernel, by decide +kernel⟩
abbrev n_Reading_next_sign : List Str := [("self" : Str)]
abbrev p_Reading_next_sign : List Str := [("self" : Str)]
theorem sc_Reading_next_sign : FnScope n_Reading_next_sign p_Reading_next_sign (defScope (inClass (top 15) 1)) := ⟨rfl, rfl, rfl, by decide +kernel, rfl, by decide +kernel, by decide +kernel⟩
abbrev n_Reading_is_at : List Str := [("self" : Str), ("signs" : Str)]
abbrev p_Reading_is_at : List Str := [("self" : Str), ("signs" : Str)]
theorem sc_Reading_is_at : FnScope n_Reading_is_at p_Reading_is_at (defScope (inClass (top 15) 2)) := ⟨rfl, rfl, rfl, by decide +kernel, rfl, by decide +kernel, by decide +kernel⟩
abbrev n_Reading_take : List Str := [("self" : Str), ("signs" : Str), ("start" : Str)]
abbrev p_Reading_take : List Str := [("self" : Str), ("signs" : Str)]
theorem sc_Reading_take : FnScope n_Reading_take p_Reading_take (defScope (inClass (top 15) 3)) := ⟨rfl, rfl, rfl, by decide +kernel, rfl, by decide +kernel, by decide +kernel⟩
abbrev n_Reading_integer : List Str := [("self" : Str), ("minus" : Str), ("start" : Str), ("zero" : Str), ("figures" : Str)]
abbrev p_Reading_integer : List Str := [("self" : Str)]
theorem sc_Reading_integer : FnScope n_Reading_integer p_Reading_integer (defScope (inClass (top 15) 4)) := ⟨rfl, rfl, rfl, by decide +kernel, rfl, by decide +kernel, by decide +kernel⟩
abbrev n_Reading_term : List Str := [("self" : Str), ("depth" : Str), ("word" : Str)]
abbrev p_Reading_term : List Str := [("self" : Str), ("depth" : Str)]
theorem sc_Reading_term : FnScope n_Reading_term p_Reading_term (defScope (inClass (top 15) 5)) := ⟨rfl, rfl, rfl, by decide +kernel, rfl, by decide +kernel, by decide +kernel⟩
abbrev n_Reading_told_rows : List Str := [("self" : Str), ("depth" : Str), ("found" : Str)]
abbrev p_Reading_told_rows : List Str := [("self" : Str), ("depth" : Str)]
theorem sc_Reading_told_rows : FnScope n_Reading_told_rows p_Reading_told_rows (defScope (inClass (top 15) 6)) := ⟨rfl, rfl, rfl, by decide +kernel, rfl, by decide +kernel, by decide +kernel⟩
abbrev n_read_term : List Str := [("text" : Str), ("reading" : Str), ("term" : Str)]
abbrev p_read_term : List Str := [("text" : Str)]
theorem sc_read_term : FnScope n_read_term p_read_term (defScope (top 16)) := ⟨rfl, rfl, rfl, by decide +kernel, rfl, by decide +kernel, by decide +kernel⟩
abbrev n__law_number : List Str := [("cell" : Str)]
abbrev p__law_number : List Str := [("cell" : Str)]
theorem sc_law_number : FnScope n__law_number p__law_number (defScope (top 18)) := ⟨rfl, rfl, rfl, by decide +kernel, rfl, by decide +kernel, by decide +kernel⟩
abbrev n__law_draws : List Str := [("script" : Str), ("draws" : Str), ("cell" : Str), ("rest" : Str), ("k" : Str), ("once" : Str), ("twice" : Str)]
abbrev p__law_draws : List Str := [("script" : Str)]
theorem sc_law_draws : FnScope n__law_draws p__law_draws (defScope (top 19)) := ⟨rfl, rfl, rfl, by decide +kernel, rfl, by decide +kernel, by decide +kernel⟩
abbrev n__law_next : List Str := [("draws" : Str)]
abbrev p__law_next : List Str := [("draws" : Str)]
theorem sc_law_next : FnScope n__law_next p__law_next (defScope (top 20)) := ⟨rfl, rfl, rfl, by decide +kernel, rfl, by decide +kernel, by decide +kernel⟩
abbrev n__law_more : List Str := [("draws" : Str), ("many" : Str), ("seed" : Str), ("more" : Str), ("k" : Str)]
abbrev p__law_more : List Str := [("draws" : Str), ("many" : Str)]
theorem sc_law_more : FnScope n__law_more p__law_more (defScope (top 21)) := ⟨rfl, rfl, rfl, by decide +kernel, rfl, by decide +kernel, by decide +kernel⟩
abbrev n__law_pick : List Str := [("draws" : Str), ("some" : Str)]
abbrev p__law_pick : List Str := [("draws" : Str), ("some" : Str)]
theorem sc_law_pick : FnScope n__law_pick p__law_pick (defScope (top 22)) := ⟨rfl, rfl, rfl, by decide +kernel, rfl, by decide +kernel, by decide +kernel⟩
abbrev n__law_term : List Str := [("draws" : Str), ("depth" : Str), ("kind" : Str), ("word" : Str), ("k" : Str)]
abbrev p__law_term : List Str := [("draws" : Str), ("depth" : Str)]
theorem sc_law_term : FnScope n__law_term p__law_term (defScope (top 23)) := ⟨rfl, rfl, rfl, by decide +kernel, rfl, by decide +kernel, by decide +kernel⟩
abbrev n__law_text : List Str := [("term" : Str), ("entry" : Str)]
abbrev p__law_text : List Str := [("term" : Str)]
theorem sc_law_text : FnScope n__law_text p__law_text (defScope (top 24)) := ⟨rfl, rfl, rfl, by decide +kernel, rfl, by decide +kernel, by decide +kernel⟩
abbrev n__law_integer : List Str := [("text" : Str), ("at" : Str), ("start" : Str), ("first" : Str), ("k" : Str)]
abbrev p__law_integer : List Str := [("text" : Str), ("at" : Str)]
theorem sc_law_integer : FnScope n__law_integer p__law_integer (defScope (top 25)) := ⟨rfl, rfl, rfl, by decide +kernel, rfl, by decide +kernel, by decide +kernel⟩
abbrev n__law_read : List Str := [("text" : Str), ("at" : Str), ("depth" : Str), ("sign" : Str), ("end" : Str), ("k" : Str)]
abbrev p__law_read : List Str := [("text" : Str), ("at" : Str), ("depth" : Str)]
theorem sc_law_read : FnScope n__law_read p__law_read (defScope (top 26)) := ⟨rfl, rfl, rfl, by decide +kernel, rfl, by decide +kernel, by decide +kernel⟩
abbrev n__law_entries : List Str := [("text" : Str), ("at" : Str), ("depth" : Str), ("found" : Str), ("turn" : Str), ("term" : Str), ("end" : Str)]
abbrev p__law_entries : List Str := [("text" : Str), ("at" : Str), ("depth" : Str)]
theorem sc_law_entries : FnScope n__law_entries p__law_entries (defScope (top 27)) := ⟨rfl, rfl, rfl, by decide +kernel, rfl, by decide +kernel, by decide +kernel⟩
abbrev n__law_due : List Str := [("text" : Str), ("term" : Str), ("at" : Str)]
abbrev p__law_due : List Str := [("text" : Str)]
theorem sc_law_due : FnScope n__law_due p__law_due (defScope (top 28)) := ⟨rfl, rfl, rfl, by decide +kernel, rfl, by decide +kernel, by decide +kernel⟩
abbrev n__law_told : List Str := [("text" : Str), ("error" : Str)]
abbrev p__law_told : List Str := [("text" : Str)]
theorem sc_law_told : FnScope n__law_told p__law_told (defScope (top 29)) := ⟨rfl, rfl, rfl, by decide +kernel, rfl, by decide +kernel, by decide +kernel⟩
abbrev n__law_refused : List Str := [("term" : Str)]
abbrev p__law_refused : List Str := [("term" : Str)]
theorem sc_law_refused : FnScope n__law_refused p__law_refused (defScope (top 30)) := ⟨rfl, rfl, rfl, by decide +kernel, rfl, by decide +kernel, by decide +kernel⟩
abbrev n_law : List Str := [("script" : Str), ("draws" : Str), ("some" : Str), ("turn" : Str), ("term" : Str), ("text" : Str), ("k" : Str), ("at" : Str), ("cut" : Str), ("sign" : Str), ("spoilt" : Str), ("deep" : Str), ("texts" : Str), ("great" : Str)]
abbrev p_law : List Str := [("script" : Str)]
theorem sc_law : FnScope n_law p_law (defScope (top 31)) := ⟨rfl, rfl, rfl, by decide +kernel, rfl, by decide +kernel, by decide +kernel⟩
/-- what the written part says -/
structure Txt (K : PySem.W.Frag) (mg : Str → Option Value) (a : Ad) : Prop where
  U_Malformed__init : Fun K "__init__" "Malformed.__init__" (inClass (top 3) 0) a.f_Malformed__init a.d_Malformed__init
  B_Malformed__init : Binds K a.d_Malformed__init p_Malformed___init__ []
  U_has_text : Fun K "has_text" "has_text" (top 13) a.f_has_text a.d_has_text
  B_has_text : Binds K a.d_has_text p_has_text []
  M_has_text : mg "has_text" = some (.ref a.f_has_text)
  U_term_text : Fun K "term_text" "term_text" (top 14) a.f_term_text a.d_term_text
  B_term_text : Binds K a.d_term_text p_term_text []
  M_term_text : mg "term_text" = some (.ref a.f_term_text)
  U_Reading__init : Fun K "__init__" "Reading.__init__" (inClass (top 15) 0) a.f_Reading__init a.d_Reading__init
  B_Reading__init : Binds K a.d_Reading__init p_Reading___init__ []
  U_Reading_next_sign : Fun K "next_sign" "Reading.next_sign" (inClass (top 15) 1) a.f_Reading_next_sign a.d_Reading_next_sign
  B_Reading_next_sign : Binds K a.d_Reading_next_sign p_Reading_next_sign []
  U_Reading_is_at : Fun K "is_at" "Reading.is_at" (inClass (top 15) 2) a.f_Reading_is_at a.d_Reading_is_at
  B_Reading_is_at : Binds K a.d_Reading_is_at p_Reading_is_at []
  U_Reading_take : Fun K "take" "Reading.take" (inClass (top 15) 3) a.f_Reading_take a.d_Reading_take
  B_Reading_take : Binds K a.d_Reading_take p_Reading_take []
  U_Reading_integer : Fun K "integer" "Reading.integer" (inClass (top 15) 4) a.f_Reading_integer a.d_Reading_integer
  B_Reading_integer : Binds K a.d_Reading_integer p_Reading_integer []
  U_Reading_term : Fun K "term" "Reading.term" (inClass (top 15) 5) a.f_Reading_term a.d_Reading_term
  B_Reading_term : Binds K a.d_Reading_term p_Reading_term []
  U_Reading_told_rows : Fun K "told_rows" "Reading.told_rows" (inClass (top 15) 6) a.f_Reading_told_rows a.d_Reading_told_rows
  B_Reading_told_rows : Binds K a.d_Reading_told_rows p_Reading_told_rows []
  U_read_term : Fun K "read_term" "read_term" (top 16) a.f_read_term a.d_read_term
  B_read_term : Binds K a.d_read_term p_read_term []
  M_read_term : mg "read_term" = some (.ref a.f_read_term)
  U_law_number : Fun K "_law_number" "_law_number" (top 18) a.f_law_number a.d_law_number
  B_law_number : Binds K a.d_law_number p__law_number []
  M_law_number : mg "_law_number" = some (.ref a.f_law_number)
  U_law_draws : Fun K "_law_draws" "_law_draws" (top 19) a.f_law_draws a.d_law_draws
  B_law_draws : Binds K a.d_law_draws p__law_draws []
  M_law_draws : mg "_law_draws" = some (.ref a.f_law_draws)
  U_law_next : Fun K "_law_next" "_law_next" (top 20) a.f_law_next a.d_law_next
  B_law_next : Binds K a.d_law_next p__law_next []
  M_law_next : mg "_law_next" = some (.ref a.f_law_next)
  U_law_more : Fun K "_law_more" "_law_more" (top 21) a.f_law_more a.d_law_more
  B_law_more : Binds K a.d_law_more p__law_more []
  M_law_more : mg "_law_more" = some (.ref a.f_law_more)
  U_law_pick : Fun K "_law_pick" "_law_pick" (top 22) a.f_law_pick a.d_law_pick
  B_law_pick : Binds K a.d_law_pick p__law_pick []
  M_law_pick : mg "_law_pick" = some (.ref a.f_law_pick)
  U_law_term : Fun K "_law_term" "_law_term" (top 23) a.f_law_term a.d_law_term
  B_law_term : Binds K a.d_law_term p__law_term []
  M_law_term : mg "_law_term" = some (.ref a.f_law_term)
  U_law_text : Fun K "_law_text" "_law_text" (top 24) a.f_law_text a.d_law_text
  B_law_text : Binds K a.d_law_text p__law_text []
  M_law_text : mg "_law_text" = some (.ref a.f_law_text)
  U_law_integer : Fun K "_law_integer" "_law_integer" (top 25) a.f_law_integer a.d_law_integer
  B_law_integer : Binds K a.d_law_integer p__law_integer []
  M_law_integer : mg "_law_integer" = some (.ref a.f_law_integer)
  U_law_read : Fun K "_law_read" "_law_read" (top 26) a.f_law_read a.d_law_read
  B_law_read : Binds K a.d_law_read p__law_read []
  M_law_read : mg "_law_read" = some (.ref a.f_law_read)
  U_law_entries : Fun K "_law_entries" "_law_entries" (top 27) a.f_law_entries a.d_law_entries
  B_law_entries : Binds K a.d_law_entries p__law_entries []
  M_law_entries : mg "_law_entries" = some (.ref a.f_law_entries)
  U_law_due : Fun K "_law_due" "_law_due" (top 28) a.f_law_due a.d_law_due
  B_law_due : Binds K a.d_law_due p__law_due []
  M_law_due : mg "_law_due" = some (.ref a.f_law_due)
  U_law_told : Fun K "_law_told" "_law_told" (top 29) a.f_law_told a.d_law_told
  B_law_told : Binds K a.d_law_told p__law_told []
  M_law_told : mg "_law_told" = some (.ref a.f_law_told)
  U_law_refused : Fun K "_law_refused" "_law_refused" (top 30) a.f_law_refused a.d_law_refused
  B_law_refused : Binds K a.d_law_refused p__law_refused []
  M_law_refused : mg "_law_refused" = some (.ref a.f_law_refused)
  U_law : Fun K "law" "law" (top 31) a.f_law a.d_law
  B_law : Binds K a.d_law p_law []
  M_law : mg "law" = some (.ref a.f_law)
  C_FIGURES : ∃ u, mg "FIGURES" = some u ∧ RelV (.str "0123456789") u
  C_MOST_BITS : ∃ u, mg "MOST_BITS" = some u ∧ RelV (.int 13287) u
  C_MOST_FIGURES : ∃ u, mg "MOST_FIGURES" = some u ∧ RelV (.int 20) u
  C_MOST_OPEN : ∃ u, mg "MOST_OPEN" = some u ∧ RelV (.int 24) u
  C_MOST_TEXT : ∃ u, mg "MOST_TEXT" = some u ∧ RelV (.int 4000) u
  C_NOBODY : ∃ u, mg "NOBODY" = some u ∧ RelV (.str ".") u
  C_NOTHING : ∃ u, mg "NOTHING" = some u ∧ RelV (.str "none") u
  C_SMALL : ∃ u, mg "SMALL" = some u ∧ RelV (.str "abcdefghijklmnopqrstuvwxyz") u
  Z_abs : mg "abs" = none
  Z_all : mg "all" = none
  Z_int : mg "int" = none
  Z_isinstance : mg "isinstance" = none
  Z_len : mg "len" = none
  Z_list : mg "list" = none
  Z_range : mg "range" = none
  Z_repr : mg "repr" = none
  Z_str : mg "str" = none
  Z_tuple : mg "tuple" = none
  M_RunError : mg "RunError" = some (.ref a.a_RunError)
  M_BadNumber : mg "BadNumber" = some (.ref a.a_BadNumber)
  M_Malformed : mg "Malformed" = some (.ref a.a_Malformed)
  M_Reading : mg "Reading" = some (.ref a.a_Reading)
  cl_Reading : Cls K a.a_Reading
  mk_Reading : Mk K a.a_Reading a.f_Reading__init
  me_Reading_next_sign : Meth K a.a_Reading "next_sign" a.f_Reading_next_sign
  me_Reading_is_at : Meth K a.a_Reading "is_at" a.f_Reading_is_at
  me_Reading_take : Meth K a.a_Reading "take" a.f_Reading_take
  me_Reading_integer : Meth K a.a_Reading "integer" a.f_Reading_integer
  me_Reading_term : Meth K a.a_Reading "term" a.f_Reading_term
  me_Reading_told_rows : Meth K a.a_Reading "told_rows" a.f_Reading_told_rows
  na_Reading_at : NoAttr K a.a_Reading "at"
  na_Reading_text : NoAttr K a.a_Reading "text"
  te_BadNumber : PySem.W.exmOne K (.ref a.a_BadNumber) (.ref a.a_BadNumber) = some true
  te_Malformed : PySem.W.exmOne K (.ref a.a_Malformed) (.ref a.a_Malformed) = some true
  q_BadNumber : PySem.W.excIn K a.a_BadNumber [.type "ValueError", .type "Exception", .type "BaseException", .type "object"] "ValueError.__new__" = true
  ke_BadNumber : PySem.W.keepIn K (.ref a.a_BadNumber) = true
  ex_BadNumber : PySem.W.subIn K (.ref a.a_BadNumber) (.type "BaseException") = some true
  ty_BadNumber : PySem.W.typeIn K (.ref a.a_BadNumber) = some (.type "type")
  xg_Malformed : ExG K a.a_Malformed "at"
  ox_Malformed : OexC K a.a_Malformed
  in_Malformed : PySem.W.findIn K (.ref a.a_Malformed) "__init__" = some (some (.ref a.f_Malformed__init))
  ti_Malformed : PySem.W.typeIn K (.ref a.f_Malformed__init) = some (.type "function")
  gg_RunError : PySem.W.specialIn K (.ref a.a_RunError) "__getattribute__" = some (some (.builtin "type.__getattribute__"))
  rr_RunError : PySem.W.readsIn K a.a_RunError (.type "type") = true
  vv_RunError : PySem.W.findCls K (.ref a.a_RunError) (.type "type") "__init__" = some (.val (.builtin "ValueError.__init__"))
  nx_Malformed : PySem.W.findIn K (.ref a.a_Malformed) "at" = some none
section
variable {P : Program} {w : World} {K : PySem.W.Frag} {mg : Str → Option Value} {base : Heap} {a : Ad} {k : Nat}
theorem ok_Malformed__init (T : Txt K mg a) : FnOk P w K mg base (L2.CX P w) (k + 1) a.f_Malformed__init a.d_Malformed__init p_Malformed___init__ (spI a.a_Malformed "at") := by
  refine T.U_Malformed__init.okX sc_Malformed__init (fun vs H Q E ⟨x, v, e, _⟩ => by rw [e]; rfl) (fun cdv A outer s H vs Q E hr h => ?_)
  exact ⟨_, init_body rfl (Or.inl rfl) (Or.inl rfl) rfl T.M_RunError T.gg_RunError T.rr_RunError T.vv_RunError, init_reads T.ox_Malformed T.nx_Malformed h⟩
def c_has_text : CS :=
  (sSeq (sIf (bNot (bTru (cBin dShr (cFun fAbs [(cVar 0)]) (cK (.int 13287))))) (sRet (cK (.bl true))) sNext)
    (sSeq (sSet 1 (cK (.int 1)))
    (sSeq (sFor (cRng1 [(cK (.int 4000))]) (.nm 2) (sAug 1 dMul (cK (.int 10))))
    (sRet (cBin (dCmpI fun i j => decide (i < j)) (cFun fAbs [(cVar 0)]) (cVar 1))))))
theorem ok_has_text (T : Txt K mg a) :
    FnOk P w K mg base (L2.CX P w) (k + 1) a.f_has_text a.d_has_text p_has_text (spV ⟨K, a.cm⟩ (p_has_text : List Str).length (runF (n_has_text : List Str).length c_has_text)) := by
  refine fn_bodyC T.U_has_text sc_has_text (by decide) fun cdv A outer s H E hr tk po => ?_
  unfold c_has_text
  exact (ss_cons (s_if (b_not (b_tru (e_bin o_shr (e_callB c_abs (by exact rfl) T.Z_abs (by decide +kernel) (a_cons (e_var (pe_var (i := 0) rfl (Or.inl rfl))) a_nil)) (e_gl (by exact rfl) T.C_MOST_BITS fun _ => .int _)))) (ss_one (s_ret e_bl)) ss_nil)
    (ss_cons (s_set (i := 1) sc_has_text.nd rfl (Or.inl rfl) e_int)
    (ss_cons (s_for po rfl (i_rng1 (by exact rfl) T.Z_range (a_cons (e_gl (by exact rfl) T.C_MOST_TEXT fun _ => .int _) a_nil)) (g_nm (pg_name (i := 2) sc_has_text.nd rfl (Or.inl rfl))) (ss_one (s_aug (i := 1) sc_has_text.nd rfl (Or.inl rfl) e_int o_imul)))
    (ss_one (s_ret (e_cmp o_lt (e_callB c_abs (by exact rfl) T.Z_abs (by decide +kernel) (a_cons (e_var (pe_var (i := 0) rfl (Or.inl rfl))) a_nil)) (e_var (pe_var (i := 1) rfl (Or.inl rfl))) (nomark _)))))))
def c_term_text (F_has_text F_term_text : CF) : CS :=
  (sSeq (sIf (bOf (cBin dIsN (cVar 0) (cK .non))) (sRet (cK (.str "none"))) sNext)
    (sSeq (sIf (bTru (cFun fIsi [(cVar 0), (cK (.ty "int"))])) (sSeq (sIf (bNot (bTru (cCall F_has_text [(cVar 0)]))) (sRaise0 1) sNext)
    (sRet (cFun fStr [(cVar 0)]))) sNext)
    (sSeq (sIf (bTru (cFun fIsi [(cVar 0), (cK (.ty "str"))])) (sSeq (sIf (bOr (bOf (cBin (dEq false) (cVar 0) (cK (.str "none")))) (bNot (bTru (cFun fAll [(cVal (cLc (cIt itS (cVar 0)) (.nm 2) bYes (cBin (dInS false) (cVar 2) (cK (.str "abcdefghijklmnopqrstuvwxyz"))) [2]))])))) (sRaise0 1) sNext)
    (sRet (cOr (cVar 0) (cK (.str "."))))) sNext)
    (sRet (cBin dAdd (cBin dAdd (cK (.str "(")) (cJoin (cK (.str " ")) (cVal (cLcX (cIt itQ (cVar 0)) (.nm 1) bYes (cCall F_term_text [(cVar 1)]) [1])))) (cK (.str ")")))))))
theorem ok_term_text {F_has_text F_term_text : CF} (T : Txt K mg a) (nd : base.NoDigits) (G_has_text : FnOk P w K mg base (L2.CX P w) k a.f_has_text a.d_has_text p_has_text (spV ⟨K, a.cm⟩ (p_has_text : List Str).length F_has_text)) (G_term_text : FnOk P w K mg base (L2.CX P w) k a.f_term_text a.d_term_text p_term_text (spV ⟨K, a.cm⟩ (p_term_text : List Str).length F_term_text)) :
    FnOk P w K mg base (L2.CX P w) (k + 1) a.f_term_text a.d_term_text p_term_text (spV ⟨K, a.cm⟩ (p_term_text : List Str).length (runF (n_term_text : List Str).length (c_term_text F_has_text F_term_text))) := by
  refine fn_bodyC T.U_term_text sc_term_text (by decide) fun cdv A outer s H E hr tk po => ?_
  unfold c_term_text
  exact (ss_cons (s_if (b_cmp o_isN (e_var (pe_var (i := 0) rfl (Or.inl rfl))) e_non (nomark _)) (ss_one (s_ret (e_gl (by exact rfl) T.C_NOTHING fun _ => .str _))) ss_nil)
    (ss_cons (s_if (b_tru (e_callB c_isi (by exact rfl) T.Z_isinstance (by decide +kernel) (a_cons (e_var (pe_var (i := 0) rfl (Or.inl rfl))) (a_cons (e_ty (by exact rfl) T.Z_int (by decide +kernel)) a_nil)))) (ss_cons (s_if (b_not (b_tru (e_call G_has_text hr (by exact rfl) T.M_has_text T.U_has_text.kp T.B_has_text tk (a_cons (e_var (pe_var (i := 0) rfl (Or.inl rfl))) a_nil)))) (ss_one (s_raise0 (c := 1) rfl tk PySem.F.excBase_ValueError T.q_BadNumber T.M_BadNumber T.ke_BadNumber T.ex_BadNumber T.ty_BadNumber rfl)) ss_nil)
    (ss_one (s_ret (e_callT (c_str rfl nd) (by exact rfl) T.Z_str (by decide +kernel) (a_cons (e_var (pe_var (i := 0) rfl (Or.inl rfl))) a_nil))))) ss_nil)
    (ss_cons (s_if (b_tru (e_callB c_isi (by exact rfl) T.Z_isinstance (by decide +kernel) (a_cons (e_var (pe_var (i := 0) rfl (Or.inl rfl))) (a_cons (e_ty (by exact rfl) T.Z_str (by decide +kernel)) a_nil)))) (ss_cons (s_if (w_or (b_cmp (o_eq hr) (e_var (pe_var (i := 0) rfl (Or.inl rfl))) (e_gl (by exact rfl) T.C_NOTHING fun _ => .str _) (nomark _)) (w_or1 (b_not (b_tru (e_callB (c_all rfl) (by exact rfl) T.Z_all (by decide +kernel) (a_cons (e_val (f_lc (own := [("sign", 2)]) rfl sc_term_text.nd (i_str (e_var (pe_var (i := 0) rfl (Or.inl rfl)))) (blkOk_by (N := n_term_text) (sc := defScope (top 14)) (own := [("sign", 2)]) (by decide +kernel)) (fun _ _ _ _ _ => (g_nm (pg_name (i := 2) sc_term_text.nd rfl (Or.inl rfl)))) (fun _ _ _ _ _ => c_yes) (fun _ _ _ _ _ => (e_cmp o_inS (e_var (pe_var (i := 2) rfl (Or.inl rfl))) (e_gl (by exact rfl) T.C_SMALL fun _ => .str _) rfl)))) a_nil)))))).pt (ss_one (s_raise0 (c := 1) rfl tk PySem.F.excBase_ValueError T.q_BadNumber T.M_BadNumber T.ke_BadNumber T.ex_BadNumber T.ty_BadNumber rfl)) ss_nil)
    (ss_one (s_ret (e_or (e_var (pe_var (i := 0) rfl (Or.inl rfl))) (e_one (e_gl (by exact rfl) T.C_NOBODY fun _ => .str _)))))) ss_nil)
    (ss_one (s_ret (e_bin o_add (e_bin o_add e_str (e_join e_str (e_val (f_lcX (own := [("entry", 1)]) rfl rfl tk rfl sc_term_text.nd (i_seq (e_var (pe_var (i := 0) rfl (Or.inl rfl)))) (blkOk_by (N := n_term_text) (sc := defScope (top 14)) (own := [("entry", 1)]) (by decide +kernel)) (fun _ _ _ _ _ => (g_nm (pg_name (i := 1) sc_term_text.nd rfl (Or.inl rfl)))) (fun _ _ _ _ _ => c_yes) (fun _ _ _ _ _ _ _ tkb => (e_call G_term_text hr (by exact rfl) T.M_term_text T.U_term_text.kp T.B_term_text tkb (a_cons (e_var (pe_var (i := 1) rfl (Or.inl rfl))) a_nil))))))) e_str))))))
def c_Reading__init : CS :=
  (sSeq (sFldS 3 "text" (cVar 0) (cVar 1))
    (sFldS 3 "at" (cVar 0) (cK (.int 0))))
theorem ok_Reading__init (T : Txt K mg a) :
    FnOk P w K mg base (L2.CX P w) (k + 1) a.f_Reading__init a.d_Reading__init p_Reading___init__ (spV ⟨K, a.cm⟩ (p_Reading___init__ : List Str).length (runF (n_Reading___init__ : List Str).length c_Reading__init)) := by
  refine fn_bodyC T.U_Reading__init sc_Reading__init (by decide) fun cdv A outer s H E hr tk po => ?_
  unfold c_Reading__init
  exact (ss_cons (s_fld (c := 3) T.cl_Reading T.na_Reading_text (e_var (pe_var (i := 0) rfl (Or.inl rfl))) (e_var (pe_var (i := 1) rfl (Or.inl rfl))))
    (ss_one (s_fld (c := 3) T.cl_Reading T.na_Reading_at (e_var (pe_var (i := 0) rfl (Or.inl rfl))) e_int)))
def c_Reading_next_sign : CS :=
  (sRet (cSl slS (cFld 3 "text" (cVar 0)) (pSm (cFld 3 "at" (cVar 0))) (pSm (cBin dAdd (cFld 3 "at" (cVar 0)) (cK (.int 1))))))
theorem ok_Reading_next_sign (T : Txt K mg a) :
    FnOk P w K mg base (L2.CX P w) (k + 1) a.f_Reading_next_sign a.d_Reading_next_sign p_Reading_next_sign (spV ⟨K, a.cm⟩ (p_Reading_next_sign : List Str).length (runF (n_Reading_next_sign : List Str).length c_Reading_next_sign)) := by
  refine fn_bodyC T.U_Reading_next_sign sc_Reading_next_sign (by decide) fun cdv A outer s H E hr tk po => ?_
  unfold c_Reading_next_sign
  exact (ss_one (s_ret (e_sl l_str (e_fld (c := 3) T.cl_Reading T.na_Reading_text (e_var (pe_var (i := 0) rfl (Or.inl rfl)))) (p_sm (e_fld (c := 3) T.cl_Reading T.na_Reading_at (e_var (pe_var (i := 0) rfl (Or.inl rfl))))) (p_sm (e_bin o_add (e_fld (c := 3) T.cl_Reading T.na_Reading_at (e_var (pe_var (i := 0) rfl (Or.inl rfl)))) e_int)))))
def c_Reading_is_at (F_Reading_next_sign : CF) : CS :=
  (sRet (cAnd (cBin (dEq true) (cMeth 3 "next_sign" F_Reading_next_sign (cVar 0) []) (cK (.str ""))) (cBin (dInS false) (cMeth 3 "next_sign" F_Reading_next_sign (cVar 0) []) (cVar 1))))
theorem ok_Reading_is_at {F_Reading_next_sign : CF} (T : Txt K mg a) (G_Reading_next_sign : FnOk P w K mg base (L2.CX P w) k a.f_Reading_next_sign a.d_Reading_next_sign p_Reading_next_sign (spV ⟨K, a.cm⟩ (p_Reading_next_sign : List Str).length F_Reading_next_sign)) :
    FnOk P w K mg base (L2.CX P w) (k + 1) a.f_Reading_is_at a.d_Reading_is_at p_Reading_is_at (spV ⟨K, a.cm⟩ (p_Reading_is_at : List Str).length (runF (n_Reading_is_at : List Str).length (c_Reading_is_at F_Reading_next_sign))) := by
  refine fn_bodyC T.U_Reading_is_at sc_Reading_is_at (by decide) fun cdv A outer s H E hr tk po => ?_
  unfold c_Reading_is_at
  exact (ss_one (s_ret (e_and (e_cmp (o_ne hr) (e_meth0 (c := 3) T.cl_Reading T.me_Reading_next_sign G_Reading_next_sign hr T.B_Reading_next_sign tk (e_var (pe_var (i := 0) rfl (Or.inl rfl)))) e_str (nomark _)) (e_one (e_cmp o_inS (e_meth0 (c := 3) T.cl_Reading T.me_Reading_next_sign G_Reading_next_sign hr T.B_Reading_next_sign tk (e_var (pe_var (i := 0) rfl (Or.inl rfl)))) (e_var (pe_var (i := 1) rfl (Or.inl rfl))) rfl)))))
def c_Reading_take (F_Reading_is_at : CF) : CS :=
  (sSeq (sSet 2 (cFld 3 "at" (cVar 0)))
    (sSeq (whF (bTru (cMeth 3 "is_at" F_Reading_is_at (cVar 0) [(cVar 1)])) (sFldI 3 "at" (cVar 0) (cK (.int 1))) 20000000)
    (sRet (cSl slS (cFld 3 "text" (cVar 0)) (pSm (cVar 2)) (pSm (cFld 3 "at" (cVar 0)))))))
theorem ok_Reading_take {F_Reading_is_at : CF} (T : Txt K mg a) (G_Reading_is_at : FnOk P w K mg base (L2.CX P w) k a.f_Reading_is_at a.d_Reading_is_at p_Reading_is_at (spV ⟨K, a.cm⟩ (p_Reading_is_at : List Str).length F_Reading_is_at)) :
    FnOk P w K mg base (L2.CX P w) (k + 1) a.f_Reading_take a.d_Reading_take p_Reading_take (spV ⟨K, a.cm⟩ (p_Reading_take : List Str).length (runF (n_Reading_take : List Str).length (c_Reading_take F_Reading_is_at))) := by
  refine fn_bodyC T.U_Reading_take sc_Reading_take (by decide) fun cdv A outer s H E hr tk po => ?_
  unfold c_Reading_take
  exact (ss_cons (s_set (i := 2) sc_Reading_take.nd rfl (Or.inl rfl) (e_fld (c := 3) T.cl_Reading T.na_Reading_at (e_var (pe_var (i := 0) rfl (Or.inl rfl)))))
    (ss_cons (s_while 20000000 po (b_tru (e_meth (c := 3) T.cl_Reading T.me_Reading_is_at G_Reading_is_at hr T.B_Reading_is_at tk (e_var (pe_var (i := 0) rfl (Or.inl rfl))) (a_cons (e_var (pe_var (i := 1) rfl (Or.inl rfl))) a_nil))) (ss_one (s_fldI (c := 3) T.cl_Reading T.na_Reading_at (e_var (pe_var (i := 0) rfl (Or.inl rfl))) e_int)))
    (ss_one (s_ret (e_sl l_str (e_fld (c := 3) T.cl_Reading T.na_Reading_text (e_var (pe_var (i := 0) rfl (Or.inl rfl)))) (p_sm (e_var (pe_var (i := 2) rfl (Or.inl rfl)))) (p_sm (e_fld (c := 3) T.cl_Reading T.na_Reading_at (e_var (pe_var (i := 0) rfl (Or.inl rfl))))))))))
def c_Reading_integer (F_Reading_is_at F_Reading_take : CF) : CS :=
  (sSeq (sSet 1 (cMeth 3 "is_at" F_Reading_is_at (cVar 0) [(cK (.str "-"))]))
    (sSeq (sIf (bTru (cVar 1)) (sFldI 3 "at" (cVar 0) (cK (.int 1))) sNext)
    (sSeq (sSet 2 (cFld 3 "at" (cVar 0)))
    (sSeq (sIf (bOr (bNot (bTru (cMeth 3 "is_at" F_Reading_is_at (cVar 0) [(cK (.str "0123456789"))]))) (bAnd (bTru (cVar 1)) (bTru (cMeth 3 "is_at" F_Reading_is_at (cVar 0) [(cK (.str "0"))])))) (sRaiseA 2 "at" (cFld 3 "at" (cVar 0))) sNext)
    (sSeq (sSet 3 (cMeth 3 "is_at" F_Reading_is_at (cVar 0) [(cK (.str "0"))]))
    (sSeq (sSet 4 (cMeth 3 "take" F_Reading_take (cVar 0) [(cK (.str "0123456789"))]))
    (sSeq (sIf (bAnd (bTru (cVar 3)) (bOf (cBin (dCmpI fun i j => decide (j < i)) (cFun fLen [(cVar 4)]) (cK (.int 1))))) (sRaiseA 2 "at" (cBin dAdd (cVar 2) (cK (.int 1)))) sNext)
    (sSeq (sIf (bOf (cBin (dCmpI fun i j => decide (j < i)) (cFun fLen [(cVar 4)]) (cK (.int 20)))) (sRaiseA 2 "at" (cBin dAdd (cVar 2) (cK (.int 20)))) sNext)
    (sRet (cIf (bTru (cVar 1)) (cUn dNeg (cFun fInt [(cVar 4)])) (cFun fInt [(cVar 4)])))))))))))
theorem ok_Reading_integer {F_Reading_is_at F_Reading_take : CF} (T : Txt K mg a) (G_Reading_is_at : FnOk P w K mg base (L2.CX P w) (k + 1) a.f_Reading_is_at a.d_Reading_is_at p_Reading_is_at (spV ⟨K, a.cm⟩ (p_Reading_is_at : List Str).length F_Reading_is_at)) (G_Malformed__init : FnOk P w K mg base (L2.CX P w) k a.f_Malformed__init a.d_Malformed__init p_Malformed___init__ (spI a.a_Malformed "at")) (G_Reading_take : FnOk P w K mg base (L2.CX P w) (k + 1) a.f_Reading_take a.d_Reading_take p_Reading_take (spV ⟨K, a.cm⟩ (p_Reading_take : List Str).length F_Reading_take)) :
    FnOk P w K mg base (L2.CX P w) ((k + 1) + 1) a.f_Reading_integer a.d_Reading_integer p_Reading_integer (spV ⟨K, a.cm⟩ (p_Reading_integer : List Str).length (runF (n_Reading_integer : List Str).length (c_Reading_integer F_Reading_is_at F_Reading_take))) := by
  refine fn_bodyC T.U_Reading_integer sc_Reading_integer (by decide) fun cdv A outer s H E hr tk po => ?_
  have hr1 := hr
  unfold c_Reading_integer
  exact (ss_cons (s_set (i := 1) sc_Reading_integer.nd rfl (Or.inl rfl) (e_meth (c := 3) T.cl_Reading T.me_Reading_is_at G_Reading_is_at hr T.B_Reading_is_at tk (e_var (pe_var (i := 0) rfl (Or.inl rfl))) (a_cons e_str a_nil)))
    (ss_cons (s_if (b_tru (e_var (pe_var (i := 1) rfl (Or.inl rfl)))) (ss_one (s_fldI (c := 3) T.cl_Reading T.na_Reading_at (e_var (pe_var (i := 0) rfl (Or.inl rfl))) e_int)) ss_nil)
    (ss_cons (s_set (i := 2) sc_Reading_integer.nd rfl (Or.inl rfl) (e_fld (c := 3) T.cl_Reading T.na_Reading_at (e_var (pe_var (i := 0) rfl (Or.inl rfl)))))
    (ss_cons (s_if (w_or (b_not (b_tru (e_meth (c := 3) T.cl_Reading T.me_Reading_is_at G_Reading_is_at hr T.B_Reading_is_at tk (e_var (pe_var (i := 0) rfl (Or.inl rfl))) (a_cons (e_gl (by exact rfl) T.C_FIGURES fun _ => .str _) a_nil)))) (w_or1 (w_and (b_tru (e_var (pe_var (i := 1) rfl (Or.inl rfl)))) (w_and1 (b_tru (e_meth (c := 3) T.cl_Reading T.me_Reading_is_at G_Reading_is_at hr T.B_Reading_is_at tk (e_var (pe_var (i := 0) rfl (Or.inl rfl))) (a_cons e_str a_nil))))).pt)).pt (ss_one (s_raiseA (c := 2) rfl tk T.ox_Malformed T.in_Malformed T.ti_Malformed G_Malformed__init hr1 T.B_Malformed__init rfl T.M_Malformed (e_fld (c := 3) T.cl_Reading T.na_Reading_at (e_var (pe_var (i := 0) rfl (Or.inl rfl)))))) ss_nil)
    (ss_cons (s_set (i := 3) sc_Reading_integer.nd rfl (Or.inl rfl) (e_meth (c := 3) T.cl_Reading T.me_Reading_is_at G_Reading_is_at hr T.B_Reading_is_at tk (e_var (pe_var (i := 0) rfl (Or.inl rfl))) (a_cons e_str a_nil)))
    (ss_cons (s_set (i := 4) sc_Reading_integer.nd rfl (Or.inl rfl) (e_meth (c := 3) T.cl_Reading T.me_Reading_take G_Reading_take hr T.B_Reading_take tk (e_var (pe_var (i := 0) rfl (Or.inl rfl))) (a_cons (e_gl (by exact rfl) T.C_FIGURES fun _ => .str _) a_nil)))
    (ss_cons (s_if (w_and (b_tru (e_var (pe_var (i := 3) rfl (Or.inl rfl)))) (w_and1 (b_cmp o_gt (e_callB c_len (by exact rfl) T.Z_len (by decide +kernel) (a_cons (e_var (pe_var (i := 4) rfl (Or.inl rfl))) a_nil)) e_int (nomark _)))).pt (ss_one (s_raiseA (c := 2) rfl tk T.ox_Malformed T.in_Malformed T.ti_Malformed G_Malformed__init hr1 T.B_Malformed__init rfl T.M_Malformed (e_bin o_add (e_var (pe_var (i := 2) rfl (Or.inl rfl))) e_int))) ss_nil)
    (ss_cons (s_if (b_cmp o_gt (e_callB c_len (by exact rfl) T.Z_len (by decide +kernel) (a_cons (e_var (pe_var (i := 4) rfl (Or.inl rfl))) a_nil)) (e_gl (by exact rfl) T.C_MOST_FIGURES fun _ => .int _) (nomark _)) (ss_one (s_raiseA (c := 2) rfl tk T.ox_Malformed T.in_Malformed T.ti_Malformed G_Malformed__init hr1 T.B_Malformed__init rfl T.M_Malformed (e_bin o_add (e_var (pe_var (i := 2) rfl (Or.inl rfl))) (e_gl (by exact rfl) T.C_MOST_FIGURES fun _ => .int _)))) ss_nil)
    (ss_one (s_ret (e_ifx (b_tru (e_var (pe_var (i := 1) rfl (Or.inl rfl)))) (e_un o_neg (e_callT c_int (by exact rfl) T.Z_int (by decide +kernel) (a_cons (e_var (pe_var (i := 4) rfl (Or.inl rfl))) a_nil))) (e_callT c_int (by exact rfl) T.Z_int (by decide +kernel) (a_cons (e_var (pe_var (i := 4) rfl (Or.inl rfl))) a_nil)))))))))))))
def c_Reading_term (F_Reading_is_at F_Reading_told_rows F_Reading_take F_Reading_integer : CF) : CS :=
  (sSeq (sIf (bTru (cMeth 3 "is_at" F_Reading_is_at (cVar 0) [(cK (.str "("))])) (sSeq (sIf (bOf (cBin (dEq false) (cVar 1) (cK (.int 24)))) (sRaiseA 2 "at" (cFld 3 "at" (cVar 0))) sNext)
    (sRet (cMeth 3 "told_rows" F_Reading_told_rows (cVar 0) [(cBin dAdd (cVar 1) (cK (.int 1)))]))) sNext)
    (sSeq (sIf (bTru (cMeth 3 "is_at" F_Reading_is_at (cVar 0) [(cK (.str "."))])) (sSeq (sFldI 3 "at" (cVar 0) (cK (.int 1)))
    (sRet (cK (.str "")))) sNext)
    (sSeq (sIf (bTru (cMeth 3 "is_at" F_Reading_is_at (cVar 0) [(cK (.str "abcdefghijklmnopqrstuvwxyz"))])) (sSeq (sSet 2 (cMeth 3 "take" F_Reading_take (cVar 0) [(cK (.str "abcdefghijklmnopqrstuvwxyz"))]))
    (sRet (cIf (bOf (cBin (dEq false) (cVar 2) (cK (.str "none")))) (cK .non) (cVar 2)))) sNext)
    (sRet (cMeth 3 "integer" F_Reading_integer (cVar 0) [])))))
theorem ok_Reading_term {F_Reading_is_at F_Reading_told_rows F_Reading_take F_Reading_integer : CF} (T : Txt K mg a) (G_Reading_is_at : FnOk P w K mg base (L2.CX P w) (k + 1) a.f_Reading_is_at a.d_Reading_is_at p_Reading_is_at (spV ⟨K, a.cm⟩ (p_Reading_is_at : List Str).length F_Reading_is_at)) (G_Malformed__init : FnOk P w K mg base (L2.CX P w) k a.f_Malformed__init a.d_Malformed__init p_Malformed___init__ (spI a.a_Malformed "at")) (G_Reading_told_rows : FnOk P w K mg base (L2.CX P w) (k + 1) a.f_Reading_told_rows a.d_Reading_told_rows p_Reading_told_rows (spV ⟨K, a.cm⟩ (p_Reading_told_rows : List Str).length F_Reading_told_rows)) (G_Reading_take : FnOk P w K mg base (L2.CX P w) (k + 1) a.f_Reading_take a.d_Reading_take p_Reading_take (spV ⟨K, a.cm⟩ (p_Reading_take : List Str).length F_Reading_take)) (G_Reading_integer : FnOk P w K mg base (L2.CX P w) (k + 1) a.f_Reading_integer a.d_Reading_integer p_Reading_integer (spV ⟨K, a.cm⟩ (p_Reading_integer : List Str).length F_Reading_integer)) :
    FnOk P w K mg base (L2.CX P w) ((k + 1) + 1) a.f_Reading_term a.d_Reading_term p_Reading_term (spV ⟨K, a.cm⟩ (p_Reading_term : List Str).length (runF (n_Reading_term : List Str).length (c_Reading_term F_Reading_is_at F_Reading_told_rows F_Reading_take F_Reading_integer))) := by
  refine fn_bodyC T.U_Reading_term sc_Reading_term (by decide) fun cdv A outer s H E hr tk po => ?_
  have hr1 := hr
  unfold c_Reading_term
  exact (ss_cons (s_if (b_tru (e_meth (c := 3) T.cl_Reading T.me_Reading_is_at G_Reading_is_at hr T.B_Reading_is_at tk (e_var (pe_var (i := 0) rfl (Or.inl rfl))) (a_cons e_str a_nil))) (ss_cons (s_if (b_cmp (o_eq hr) (e_var (pe_var (i := 1) rfl (Or.inl rfl))) (e_gl (by exact rfl) T.C_MOST_OPEN fun _ => .int _) (nomark _)) (ss_one (s_raiseA (c := 2) rfl tk T.ox_Malformed T.in_Malformed T.ti_Malformed G_Malformed__init hr1 T.B_Malformed__init rfl T.M_Malformed (e_fld (c := 3) T.cl_Reading T.na_Reading_at (e_var (pe_var (i := 0) rfl (Or.inl rfl)))))) ss_nil)
    (ss_one (s_ret (e_meth (c := 3) T.cl_Reading T.me_Reading_told_rows G_Reading_told_rows hr T.B_Reading_told_rows tk (e_var (pe_var (i := 0) rfl (Or.inl rfl))) (a_cons (e_bin o_add (e_var (pe_var (i := 1) rfl (Or.inl rfl))) e_int) a_nil))))) ss_nil)
    (ss_cons (s_if (b_tru (e_meth (c := 3) T.cl_Reading T.me_Reading_is_at G_Reading_is_at hr T.B_Reading_is_at tk (e_var (pe_var (i := 0) rfl (Or.inl rfl))) (a_cons (e_gl (by exact rfl) T.C_NOBODY fun _ => .str _) a_nil))) (ss_cons (s_fldI (c := 3) T.cl_Reading T.na_Reading_at (e_var (pe_var (i := 0) rfl (Or.inl rfl))) e_int)
    (ss_one (s_ret e_str))) ss_nil)
    (ss_cons (s_if (b_tru (e_meth (c := 3) T.cl_Reading T.me_Reading_is_at G_Reading_is_at hr T.B_Reading_is_at tk (e_var (pe_var (i := 0) rfl (Or.inl rfl))) (a_cons (e_gl (by exact rfl) T.C_SMALL fun _ => .str _) a_nil))) (ss_cons (s_set (i := 2) sc_Reading_term.nd rfl (Or.inl rfl) (e_meth (c := 3) T.cl_Reading T.me_Reading_take G_Reading_take hr T.B_Reading_take tk (e_var (pe_var (i := 0) rfl (Or.inl rfl))) (a_cons (e_gl (by exact rfl) T.C_SMALL fun _ => .str _) a_nil)))
    (ss_one (s_ret (e_ifx (b_cmp (o_eq hr) (e_var (pe_var (i := 2) rfl (Or.inl rfl))) (e_gl (by exact rfl) T.C_NOTHING fun _ => .str _) (nomark _)) e_non (e_var (pe_var (i := 2) rfl (Or.inl rfl))))))) ss_nil)
    (ss_one (s_ret (e_meth0 (c := 3) T.cl_Reading T.me_Reading_integer G_Reading_integer hr T.B_Reading_integer tk (e_var (pe_var (i := 0) rfl (Or.inl rfl)))))))))
def c_Reading_told_rows (F_Reading_is_at F_Reading_term : CF) : CS :=
  (sSeq (sFldI 3 "at" (cVar 0) (cK (.int 1)))
    (sSeq (sOwn 2 (cLst []))
    (sSeq (whF (bNot (bTru (cMeth 3 "is_at" F_Reading_is_at (cVar 0) [(cK (.str ")"))]))) (sSeq (sIf (bTru (cVar 2)) (sSeq (sIf (bNot (bTru (cMeth 3 "is_at" F_Reading_is_at (cVar 0) [(cK (.str " "))]))) (sRaiseA 2 "at" (cFld 3 "at" (cVar 0))) sNext)
    (sFldI 3 "at" (cVar 0) (cK (.int 1)))) sNext)
    (sMut 2 mApp [(cMeth 3 "term" F_Reading_term (cVar 0) [(cVar 1)])] fun _ ρ S => .nx ρ S)) 20000000)
    (sSeq (sFldI 3 "at" (cVar 0) (cK (.int 1)))
    (sRet (cFun fTup [(cVar 2)]))))))
theorem ok_Reading_told_rows {F_Reading_is_at F_Reading_term : CF} (T : Txt K mg a) (G_Reading_is_at : FnOk P w K mg base (L2.CX P w) (k + 1) a.f_Reading_is_at a.d_Reading_is_at p_Reading_is_at (spV ⟨K, a.cm⟩ (p_Reading_is_at : List Str).length F_Reading_is_at)) (G_Malformed__init : FnOk P w K mg base (L2.CX P w) k a.f_Malformed__init a.d_Malformed__init p_Malformed___init__ (spI a.a_Malformed "at")) (G_Reading_term : FnOk P w K mg base (L2.CX P w) (k + 1) a.f_Reading_term a.d_Reading_term p_Reading_term (spV ⟨K, a.cm⟩ (p_Reading_term : List Str).length F_Reading_term)) :
    FnOk P w K mg base (L2.CX P w) ((k + 1) + 1) a.f_Reading_told_rows a.d_Reading_told_rows p_Reading_told_rows (spV ⟨K, a.cm⟩ (p_Reading_told_rows : List Str).length (runF (n_Reading_told_rows : List Str).length (c_Reading_told_rows F_Reading_is_at F_Reading_term))) := by
  refine fn_bodyC T.U_Reading_told_rows sc_Reading_told_rows (by decide) fun cdv A outer s H E hr tk po => ?_
  have hr1 := hr
  unfold c_Reading_told_rows
  exact (ss_cons (s_fldI (c := 3) T.cl_Reading T.na_Reading_at (e_var (pe_var (i := 0) rfl (Or.inl rfl))) e_int)
    (ss_cons (s_own (i := 2) sc_Reading_told_rows.nd rfl (Or.inl rfl) (f_lst a_nil (Nat.le_of_ble_eq_true rfl)))
    (ss_cons (s_while 20000000 po (b_not (b_tru (e_meth (c := 3) T.cl_Reading T.me_Reading_is_at G_Reading_is_at hr T.B_Reading_is_at tk (e_var (pe_var (i := 0) rfl (Or.inl rfl))) (a_cons e_str a_nil)))) (ss_cons (s_if (b_tru (e_var (pe_var (i := 2) rfl (Or.inl rfl)))) (ss_cons (s_if (b_not (b_tru (e_meth (c := 3) T.cl_Reading T.me_Reading_is_at G_Reading_is_at hr T.B_Reading_is_at tk (e_var (pe_var (i := 0) rfl (Or.inl rfl))) (a_cons e_str a_nil)))) (ss_one (s_raiseA (c := 2) rfl tk T.ox_Malformed T.in_Malformed T.ti_Malformed G_Malformed__init hr1 T.B_Malformed__init rfl T.M_Malformed (e_fld (c := 3) T.cl_Reading T.na_Reading_at (e_var (pe_var (i := 0) rfl (Or.inl rfl)))))) ss_nil)
    (ss_one (s_fldI (c := 3) T.cl_Reading T.na_Reading_at (e_var (pe_var (i := 0) rfl (Or.inl rfl))) e_int))) ss_nil)
    (ss_one (s_mutE m_app (pe_bm PySem.F.plainAttrs_list PySem.F.slot_list_append PySem.F.type_list_append mt_append (pe_var (i := 2) rfl (Or.inl rfl)) (a_cons (e_meth (c := 3) T.cl_Reading T.me_Reading_term G_Reading_term hr T.B_Reading_term tk (e_var (pe_var (i := 0) rfl (Or.inl rfl))) (a_cons (e_var (pe_var (i := 1) rfl (Or.inl rfl))) a_nil)) a_nil))))))
    (ss_cons (s_fldI (c := 3) T.cl_Reading T.na_Reading_at (e_var (pe_var (i := 0) rfl (Or.inl rfl))) e_int)
    (ss_one (s_ret (e_callT c_tup (by exact rfl) T.Z_tuple (by decide +kernel) (a_cons (e_var (pe_var (i := 2) rfl (Or.inl rfl))) a_nil))))))))
def c_read_term (F_Reading__init F_Reading_term : CF) : CS :=
  (sSeq (sSet 1 (cMake 3 F_Reading__init [(cVar 0)]))
    (sSeq (sSet 2 (cMeth 3 "term" F_Reading_term (cVar 1) [(cK (.int 0))]))
    (sSeq (sIf (bOf (cBin (dCmpI fun i j => decide (i < j)) (cFld 3 "at" (cVar 1)) (cFun fLen [(cVar 0)]))) (sRaiseA 2 "at" (cFld 3 "at" (cVar 1))) sNext)
    (sRet (cVar 2)))))
theorem ok_read_term {F_Reading__init F_Reading_term : CF} (T : Txt K mg a) (G_Reading__init : FnOk P w K mg base (L2.CX P w) k a.f_Reading__init a.d_Reading__init p_Reading___init__ (spV ⟨K, a.cm⟩ (p_Reading___init__ : List Str).length F_Reading__init)) (G_Reading_term : FnOk P w K mg base (L2.CX P w) (k + 1) a.f_Reading_term a.d_Reading_term p_Reading_term (spV ⟨K, a.cm⟩ (p_Reading_term : List Str).length F_Reading_term)) (G_Malformed__init : FnOk P w K mg base (L2.CX P w) k a.f_Malformed__init a.d_Malformed__init p_Malformed___init__ (spI a.a_Malformed "at")) :
    FnOk P w K mg base (L2.CX P w) ((k + 1) + 1) a.f_read_term a.d_read_term p_read_term (spV ⟨K, a.cm⟩ (p_read_term : List Str).length (runF (n_read_term : List Str).length (c_read_term F_Reading__init F_Reading_term))) := by
  refine fn_bodyC T.U_read_term sc_read_term (by decide) fun cdv A outer s H E hr tk po => ?_
  have hr1 := hr
  unfold c_read_term
  exact (ss_cons (s_set (i := 1) sc_read_term.nd rfl (Or.inl rfl) (e_make (c := 3) T.mk_Reading G_Reading__init hr1 (by exact rfl) T.M_Reading T.B_Reading__init tk (a_cons (e_var (pe_var (i := 0) rfl (Or.inl rfl))) a_nil)))
    (ss_cons (s_set (i := 2) sc_read_term.nd rfl (Or.inl rfl) (e_meth (c := 3) T.cl_Reading T.me_Reading_term G_Reading_term hr T.B_Reading_term tk (e_var (pe_var (i := 1) rfl (Or.inl rfl))) (a_cons e_int a_nil)))
    (ss_cons (s_if (b_cmp o_lt (e_fld (c := 3) T.cl_Reading T.na_Reading_at (e_var (pe_var (i := 1) rfl (Or.inl rfl)))) (e_callB c_len (by exact rfl) T.Z_len (by decide +kernel) (a_cons (e_var (pe_var (i := 0) rfl (Or.inl rfl))) a_nil)) (nomark _)) (ss_one (s_raiseA (c := 2) rfl tk T.ox_Malformed T.in_Malformed T.ti_Malformed G_Malformed__init hr1 T.B_Malformed__init rfl T.M_Malformed (e_fld (c := 3) T.cl_Reading T.na_Reading_at (e_var (pe_var (i := 1) rfl (Or.inl rfl)))))) ss_nil)
    (ss_one (s_ret (e_var (pe_var (i := 2) rfl (Or.inl rfl))))))))
def c_law_number : CS :=
  (sSeq (sIf (bOf (cBin (dCmpI fun i j => decide (i < j)) (cVar 0) (cK (.int 0)))) (sRet (cBin dSub (cK (.int 0)) (cVar 0))) sNext)
    (sRet (cVar 0)))
theorem ok_law_number (T : Txt K mg a) :
    FnOk P w K mg base (L2.CX P w) (k + 1) a.f_law_number a.d_law_number p__law_number (spV ⟨K, a.cm⟩ (p__law_number : List Str).length (runF (n__law_number : List Str).length c_law_number)) := by
  refine fn_bodyC T.U_law_number sc_law_number (by decide) fun cdv A outer s H E hr tk po => ?_
  unfold c_law_number
  exact (ss_cons (s_if (b_cmp o_lt (e_var (pe_var (i := 0) rfl (Or.inl rfl))) e_int (nomark _)) (ss_one (s_ret (e_bin o_sub e_int (e_var (pe_var (i := 0) rfl (Or.inl rfl)))))) ss_nil)
    (ss_one (s_ret (e_var (pe_var (i := 0) rfl (Or.inl rfl))))))
def c_law_draws (F_law_number : CF) : CS :=
  (sSeq (sOwn 1 (cLst []))
    (sSeq (sFor (cIt itL (cVar 0)) (.nm 2) (sSeq (sSet 3 (cCall F_law_number [(cVar 2)]))
    (sIf (bOf (cBin (dCmpI fun i j => decide (j ≤ i)) (cVar 3) (cK (.int 1000000000000000000)))) (sFor (cRng1 [(cK (.int 60))]) (.nm 4) (sSeq (sIf (bOf (cBin (dEq false) (cVar 3) (cK (.int 0)))) sBrk sNext)
    (sSeq (sMut 1 mApp [(cBin dMod (cFun fInt [(cVar 3)]) (cK (.int 1000)))] fun _ ρ S => .nx ρ S)
    (sSet 3 (cBin dDiv (cVar 3) (cK (.int 1000))))))) (sSeq (sSet 5 (cBin dMod (cFun fInt [(cBin dAdd (cBin dMul (cVar 3) (cK (.int 48271))) (cK (.int 11)))]) (cK (.int 2147483647))))
    (sSeq (sSet 6 (cBin dMod (cFun fInt [(cBin dAdd (cBin dMul (cVar 5) (cK (.int 69621))) (cVar 3))]) (cK (.int 2147483629))))
    (sMut 1 mExt [(cVal (cLst [(cBin dMod (cFun fInt [(cVar 3)]) (cK (.int 1000))), (cBin dMod (cFun fInt [(cVar 5)]) (cK (.int 1000))), (cBin dMod (cFun fInt [(cVar 6)]) (cK (.int 1000)))]))] fun _ ρ S => .nx ρ S))))))
    (sSeq (sMut 1 mRev [] fun _ ρ S => .nx ρ S)
    (sSeq (sMkB 1) (sRet (cVar 1))))))
theorem ok_law_draws {F_law_number : CF} (T : Txt K mg a) (G_law_number : FnOk P w K mg base (L2.CX P w) k a.f_law_number a.d_law_number p__law_number (spV ⟨K, a.cm⟩ (p__law_number : List Str).length F_law_number)) :
    FnOk P w K mg base (L2.CX P w) (k + 1) a.f_law_draws a.d_law_draws p__law_draws (spV ⟨K, a.cm⟩ (p__law_draws : List Str).length (runF (n__law_draws : List Str).length (c_law_draws F_law_number))) := by
  refine fn_bodyC T.U_law_draws sc_law_draws (by decide) fun cdv A outer s H E hr tk po => ?_
  unfold c_law_draws
  exact (ss_cons (s_own (i := 1) sc_law_draws.nd rfl (Or.inl rfl) (f_lst a_nil (Nat.le_of_ble_eq_true rfl)))
    (ss_cons (s_for po rfl (i_list (e_var (pe_var (i := 0) rfl (Or.inl rfl)))) (g_nm (pg_name (i := 2) sc_law_draws.nd rfl (Or.inl rfl))) (ss_cons (s_set (i := 3) sc_law_draws.nd rfl (Or.inl rfl) (e_call G_law_number hr (by exact rfl) T.M_law_number T.U_law_number.kp T.B_law_number tk (a_cons (e_var (pe_var (i := 2) rfl (Or.inl rfl))) a_nil)))
    (ss_one (s_if (b_cmp o_ge (e_var (pe_var (i := 3) rfl (Or.inl rfl))) e_int (nomark _)) (ss_one (s_for po rfl (i_rng1 (by exact rfl) T.Z_range (a_cons e_int a_nil)) (g_nm (pg_name (i := 4) sc_law_draws.nd rfl (Or.inl rfl))) (ss_cons (s_if (b_cmp (o_eq hr) (e_var (pe_var (i := 3) rfl (Or.inl rfl))) e_int (nomark _)) (ss_one s_brk) ss_nil)
    (ss_cons (s_mutE m_app (pe_bm PySem.F.plainAttrs_list PySem.F.slot_list_append PySem.F.type_list_append mt_append (pe_var (i := 1) rfl (Or.inl rfl)) (a_cons (e_bin o_mod (e_callT c_int (by exact rfl) T.Z_int (by decide +kernel) (a_cons (e_var (pe_var (i := 3) rfl (Or.inl rfl))) a_nil)) e_int) a_nil)))
    (ss_one (s_set (i := 3) sc_law_draws.nd rfl (Or.inl rfl) (e_bin o_div (e_var (pe_var (i := 3) rfl (Or.inl rfl))) e_int))))))) (ss_cons (s_set (i := 5) sc_law_draws.nd rfl (Or.inl rfl) (e_bin o_mod (e_callT c_int (by exact rfl) T.Z_int (by decide +kernel) (a_cons (e_bin o_add (e_bin o_mul (e_var (pe_var (i := 3) rfl (Or.inl rfl))) e_int) e_int) a_nil)) e_int))
    (ss_cons (s_set (i := 6) sc_law_draws.nd rfl (Or.inl rfl) (e_bin o_mod (e_callT c_int (by exact rfl) T.Z_int (by decide +kernel) (a_cons (e_bin o_add (e_bin o_mul (e_var (pe_var (i := 5) rfl (Or.inl rfl))) e_int) (e_var (pe_var (i := 3) rfl (Or.inl rfl)))) a_nil)) e_int))
    (ss_one (s_mutE m_ext (pe_bm PySem.F.plainAttrs_list PySem.F.slot_list_extend PySem.F.type_list_extend mt_extend (pe_var (i := 1) rfl (Or.inl rfl)) (a_cons (e_val (f_lst (a_cons (e_bin o_mod (e_callT c_int (by exact rfl) T.Z_int (by decide +kernel) (a_cons (e_var (pe_var (i := 3) rfl (Or.inl rfl))) a_nil)) e_int) (a_cons (e_bin o_mod (e_callT c_int (by exact rfl) T.Z_int (by decide +kernel) (a_cons (e_var (pe_var (i := 5) rfl (Or.inl rfl))) a_nil)) e_int) (a_cons (e_bin o_mod (e_callT c_int (by exact rfl) T.Z_int (by decide +kernel) (a_cons (e_var (pe_var (i := 6) rfl (Or.inl rfl))) a_nil)) e_int) a_nil))) (Nat.le_of_ble_eq_true rfl))) a_nil))))))))))
    (ss_cons (s_mutE0 m_rev (pe_bm0 PySem.F.plainAttrs_list PySem.F.slot_list_reverse PySem.F.type_list_reverse mt_reverse (pe_var (i := 1) rfl (Or.inl rfl))))
    (ss_mkb 1 (ss_one (s_ret (e_var (pe_var (i := 1) rfl (Or.inl rfl)))))))))
def c_law_next : CS :=
  (sSeq (sIf (bTru (cVar 0)) (sRet (cMutB mPop (cVar 0) [])) sNext)
    (sRet (cK (.int 0))))
theorem ok_law_next (T : Txt K mg a) :
    FnOk P w K mg base (L2.CX P w) (k + 1) a.f_law_next a.d_law_next p__law_next (spV ⟨K, a.cm⟩ (p__law_next : List Str).length (runF (n__law_next : List Str).length c_law_next)) := by
  refine fn_bodyC T.U_law_next sc_law_next (by decide) fun cdv A outer s H E hr tk po => ?_
  unfold c_law_next
  exact (ss_cons (s_if (b_tru (e_var (pe_var (i := 0) rfl (Or.inl rfl)))) (ss_one (s_ret (e_mutB0 m_pop (pe_bm0 PySem.F.plainAttrs_list PySem.F.slot_list_pop PySem.F.type_list_pop mt_pop (e_var (pe_var (i := 0) rfl (Or.inl rfl))))))) ss_nil)
    (ss_one (s_ret e_int)))
def c_law_more (F_law_next : CF) : CS :=
  (sSeq (sSet 2 (cBin dAdd (cBin dAdd (cBin dMul (cK (.int 1000)) (cCall F_law_next [(cVar 0)])) (cCall F_law_next [(cVar 0)])) (cK (.int 1))))
    (sSeq (sOwn 3 (cLst []))
    (sSeq (sFor (cRng1 [(cVar 1)]) (.nm 4) (sSeq (sSet 2 (cBin dMod (cFun fInt [(cBin dAdd (cBin dMul (cVar 2) (cK (.int 48271))) (cK (.int 12345)))]) (cK (.int 2147483647))))
    (sMut 3 mApp [(cBin dMod (cFun fInt [(cBin dDiv (cVar 2) (cK (.int 7)))]) (cK (.int 1000)))] fun _ ρ S => .nx ρ S)))
    (sRet (cBox (cCat (cVar 3) (cVar 0)))))))
theorem ok_law_more {F_law_next : CF} (T : Txt K mg a) (G_law_next : FnOk P w K mg base (L2.CX P w) k a.f_law_next a.d_law_next p__law_next (spV ⟨K, a.cm⟩ (p__law_next : List Str).length F_law_next)) :
    FnOk P w K mg base (L2.CX P w) (k + 1) a.f_law_more a.d_law_more p__law_more (spV ⟨K, a.cm⟩ (p__law_more : List Str).length (runF (n__law_more : List Str).length (c_law_more F_law_next))) := by
  refine fn_bodyC T.U_law_more sc_law_more (by decide) fun cdv A outer s H E hr tk po => ?_
  unfold c_law_more
  exact (ss_cons (s_set (i := 2) sc_law_more.nd rfl (Or.inl rfl) (e_bin o_add (e_bin o_add (e_bin o_mul e_int (e_call G_law_next hr (by exact rfl) T.M_law_next T.U_law_next.kp T.B_law_next tk (a_cons (e_var (pe_var (i := 0) rfl (Or.inl rfl))) a_nil))) (e_call G_law_next hr (by exact rfl) T.M_law_next T.U_law_next.kp T.B_law_next tk (a_cons (e_var (pe_var (i := 0) rfl (Or.inl rfl))) a_nil))) e_int))
    (ss_cons (s_own (i := 3) sc_law_more.nd rfl (Or.inl rfl) (f_lst a_nil (Nat.le_of_ble_eq_true rfl)))
    (ss_cons (s_for po rfl (i_rng1 (by exact rfl) T.Z_range (a_cons (e_var (pe_var (i := 1) rfl (Or.inl rfl))) a_nil)) (g_nm (pg_name (i := 4) sc_law_more.nd rfl (Or.inl rfl))) (ss_cons (s_set (i := 2) sc_law_more.nd rfl (Or.inl rfl) (e_bin o_mod (e_callT c_int (by exact rfl) T.Z_int (by decide +kernel) (a_cons (e_bin o_add (e_bin o_mul (e_var (pe_var (i := 2) rfl (Or.inl rfl))) e_int) e_int) a_nil)) e_int))
    (ss_one (s_mutE m_app (pe_bm PySem.F.plainAttrs_list PySem.F.slot_list_append PySem.F.type_list_append mt_append (pe_var (i := 3) rfl (Or.inl rfl)) (a_cons (e_bin o_mod (e_callT c_int (by exact rfl) T.Z_int (by decide +kernel) (a_cons (e_bin o_div (e_var (pe_var (i := 2) rfl (Or.inl rfl))) e_int) a_nil)) e_int) a_nil))))))
    (ss_one (s_ret (e_box (f_cat (e_var (pe_var (i := 3) rfl (Or.inl rfl))) (e_var (pe_var (i := 0) rfl (Or.inl rfl))))))))))
def c_law_pick (F_law_next : CF) : CS :=
  (sRet (cBin dIx (cVar 1) (cBin dMod (cFun fInt [(cCall F_law_next [(cVar 0)])]) (cFun fLen [(cVar 1)]))))
theorem ok_law_pick {F_law_next : CF} (T : Txt K mg a) (G_law_next : FnOk P w K mg base (L2.CX P w) k a.f_law_next a.d_law_next p__law_next (spV ⟨K, a.cm⟩ (p__law_next : List Str).length F_law_next)) :
    FnOk P w K mg base (L2.CX P w) (k + 1) a.f_law_pick a.d_law_pick p__law_pick (spV ⟨K, a.cm⟩ (p__law_pick : List Str).length (runF (n__law_pick : List Str).length (c_law_pick F_law_next))) := by
  refine fn_bodyC T.U_law_pick sc_law_pick (by decide) fun cdv A outer s H E hr tk po => ?_
  unfold c_law_pick
  exact (ss_one (s_ret (e_ix (e_var (pe_var (i := 1) rfl (Or.inl rfl))) (e_bin o_mod (e_callT c_int (by exact rfl) T.Z_int (by decide +kernel) (a_cons (e_call G_law_next hr (by exact rfl) T.M_law_next T.U_law_next.kp T.B_law_next tk (a_cons (e_var (pe_var (i := 0) rfl (Or.inl rfl))) a_nil)) a_nil)) (e_callB c_len (by exact rfl) T.Z_len (by decide +kernel) (a_cons (e_var (pe_var (i := 1) rfl (Or.inl rfl))) a_nil))) (fun _ _ => rfl))))
def c_law_term (F_law_next F_law_pick F_law_term : CF) : CS :=
  (sSeq (sSet 2 (cBin dMod (cFun fInt [(cCall F_law_next [(cVar 0)])]) (cIf (bOf (cBin (dCmpI fun i j => decide (i < j)) (cVar 1) (cK (.int 4)))) (cK (.int 8)) (cK (.int 5)))))
    (sSeq (sIf (bOf (cBin (dEq false) (cVar 2) (cK (.int 0)))) (sSeq (sSet 3 (cJoin (cK (.str "")) (cVal (cLc (cRng1 [(cBin dMod (cFun fInt [(cCall F_law_next [(cVar 0)])]) (cK (.int 6)))]) (.nm 4) bYes (cBin dIx (cK (.str "abcnoze")) (cBin dMod (cFun fInt [(cCall F_law_next [(cVar 0)])]) (cK (.int 7)))) [4]))))
    (sRet (cIf (bOf (cBin (dEq false) (cVar 3) (cK (.str "none")))) (cK (.str "zone")) (cVar 3)))) sNext)
    (sSeq (sIf (bOf (cBin (dEq false) (cVar 2) (cK (.int 1)))) (sRet (cCall F_law_pick [(cVar 0), (cVal (cLst [(cK .non), (cK (.int 0)), (cUn dNeg (cK (.int 1))), (cBin dPow (cK (.int 10)) (cK (.int 19))), (cBin dAdd (cBin dSub (cK (.int 0)) (cBin dPow (cK (.int 10)) (cK (.int 20)))) (cK (.int 1)))]))])) sNext)
    (sSeq (sIf (bOf (cBin (dCmpI fun i j => decide (i < j)) (cVar 2) (cK (.int 5)))) (sRet (cBin dSub (cFun fInt [(cCall F_law_next [(cVar 0)])]) (cBin dMul (cK (.int 100)) (cBin dMod (cFun fInt [(cCall F_law_next [(cVar 0)])]) (cK (.int 7)))))) sNext)
    (sRet (cFun fTup [(cVal (cLc (cRng1 [(cBin dMod (cFun fInt [(cCall F_law_next [(cVar 0)])]) (cK (.int 4)))]) (.nm 4) bYes (cCall F_law_term [(cVar 0), (cBin dAdd (cVar 1) (cK (.int 1)))]) [4]))]))))))
theorem ok_law_term {F_law_next F_law_pick F_law_term : CF} (T : Txt K mg a) (G_law_next : FnOk P w K mg base (L2.CX P w) k a.f_law_next a.d_law_next p__law_next (spV ⟨K, a.cm⟩ (p__law_next : List Str).length F_law_next)) (G_law_pick : FnOk P w K mg base (L2.CX P w) k a.f_law_pick a.d_law_pick p__law_pick (spV ⟨K, a.cm⟩ (p__law_pick : List Str).length F_law_pick)) (G_law_term : FnOk P w K mg base (L2.CX P w) k a.f_law_term a.d_law_term p__law_term (spV ⟨K, a.cm⟩ (p__law_term : List Str).length F_law_term)) :
    FnOk P w K mg base (L2.CX P w) (k + 1) a.f_law_term a.d_law_term p__law_term (spV ⟨K, a.cm⟩ (p__law_term : List Str).length (runF (n__law_term : List Str).length (c_law_term F_law_next F_law_pick F_law_term))) := by
  refine fn_bodyC T.U_law_term sc_law_term (by decide) fun cdv A outer s H E hr tk po => ?_
  unfold c_law_term
  exact (ss_cons (s_set (i := 2) sc_law_term.nd rfl (Or.inl rfl) (e_bin o_mod (e_callT c_int (by exact rfl) T.Z_int (by decide +kernel) (a_cons (e_call G_law_next hr (by exact rfl) T.M_law_next T.U_law_next.kp T.B_law_next tk (a_cons (e_var (pe_var (i := 0) rfl (Or.inr (Or.inl rfl)))) a_nil)) a_nil)) (e_ifx (b_cmp o_lt (e_var (pe_var (i := 1) rfl (Or.inr (Or.inl rfl)))) e_int (nomark _)) e_int e_int)))
    (ss_cons (s_if (b_cmp (o_eq hr) (e_var (pe_var (i := 2) rfl (Or.inl rfl))) e_int (nomark _)) (ss_cons (s_set (i := 3) sc_law_term.nd rfl (Or.inl rfl) (e_join e_str (e_val (f_lc (own := [("k", 4)]) rfl sc_law_term.nd (i_rng1 (by exact rfl) T.Z_range (a_cons (e_bin o_mod (e_callT c_int (by exact rfl) T.Z_int (by decide +kernel) (a_cons (e_call G_law_next hr (by exact rfl) T.M_law_next T.U_law_next.kp T.B_law_next tk (a_cons (e_var (pe_var (i := 0) rfl (Or.inr (Or.inl rfl)))) a_nil)) a_nil)) e_int) a_nil)) (blkOk_by (N := n__law_term) (sc := defScope (top 23)) (own := [("k", 4)]) (by decide +kernel)) (fun _ _ _ _ _ => (g_nm (pg_name (i := 4) sc_law_term.nd rfl (Or.inl rfl)))) (fun _ _ _ _ _ => c_yes) (fun _ _ _ _ _ => (e_ix e_str (e_bin o_mod (e_callT c_int (by exact rfl) T.Z_int (by decide +kernel) (a_cons (e_call G_law_next hr (by exact rfl) T.M_law_next T.U_law_next.kp T.B_law_next takes_W0 (a_cons (e_var (pe_var (i := 0) rfl (Or.inr (Or.inl rfl)))) a_nil)) a_nil)) e_int) (fun _ _ => rfl)))))))
    (ss_one (s_ret (e_ifx (b_cmp (o_eq hr) (e_var (pe_var (i := 3) rfl (Or.inl rfl))) e_str (nomark _)) e_str (e_var (pe_var (i := 3) rfl (Or.inl rfl))))))) ss_nil)
    (ss_cons (s_if (b_cmp (o_eq hr) (e_var (pe_var (i := 2) rfl (Or.inl rfl))) e_int (nomark _)) (ss_one (s_ret (e_call G_law_pick hr (by exact rfl) T.M_law_pick T.U_law_pick.kp T.B_law_pick tk (a_cons (e_var (pe_var (i := 0) rfl (Or.inr (Or.inl rfl)))) (a_cons (e_val (f_lst (a_cons e_non (a_cons e_int (a_cons (e_un o_neg e_int) (a_cons (e_bin o_pow e_int e_int) (a_cons (e_bin o_add (e_bin o_sub e_int (e_bin o_pow e_int e_int)) e_int) a_nil))))) (Nat.le_of_ble_eq_true rfl))) a_nil))))) ss_nil)
    (ss_cons (s_if (b_cmp o_lt (e_var (pe_var (i := 2) rfl (Or.inl rfl))) e_int (nomark _)) (ss_one (s_ret (e_bin o_sub (e_callT c_int (by exact rfl) T.Z_int (by decide +kernel) (a_cons (e_call G_law_next hr (by exact rfl) T.M_law_next T.U_law_next.kp T.B_law_next tk (a_cons (e_var (pe_var (i := 0) rfl (Or.inr (Or.inl rfl)))) a_nil)) a_nil)) (e_bin o_mul e_int (e_bin o_mod (e_callT c_int (by exact rfl) T.Z_int (by decide +kernel) (a_cons (e_call G_law_next hr (by exact rfl) T.M_law_next T.U_law_next.kp T.B_law_next tk (a_cons (e_var (pe_var (i := 0) rfl (Or.inr (Or.inl rfl)))) a_nil)) a_nil)) e_int))))) ss_nil)
    (ss_one (s_ret (e_callT c_tup (by exact rfl) T.Z_tuple (by decide +kernel) (a_cons (e_val (f_lc (own := [("k", 4)]) rfl sc_law_term.nd (i_rng1 (by exact rfl) T.Z_range (a_cons (e_bin o_mod (e_callT c_int (by exact rfl) T.Z_int (by decide +kernel) (a_cons (e_call G_law_next hr (by exact rfl) T.M_law_next T.U_law_next.kp T.B_law_next tk (a_cons (e_var (pe_var (i := 0) rfl (Or.inr (Or.inl rfl)))) a_nil)) a_nil)) e_int) a_nil)) (blkOk_by (N := n__law_term) (sc := defScope (top 23)) (own := [("k", 4)]) (by decide +kernel)) (fun _ _ _ _ _ => (g_nm (pg_name (i := 4) sc_law_term.nd rfl (Or.inl rfl)))) (fun _ _ _ _ _ => c_yes) (fun _ _ _ _ _ => (e_call G_law_term hr (by exact rfl) T.M_law_term T.U_law_term.kp T.B_law_term takes_W0 (a_cons (e_var (pe_var (i := 0) rfl (Or.inr (Or.inl rfl)))) (a_cons (e_bin o_add (e_var (pe_var (i := 1) rfl (Or.inr (Or.inl rfl)))) e_int) a_nil)))))) a_nil))))))))
def c_law_text (F_law_text : CF) : CS :=
  (sSeq (sIf (bOf (cBin dIsN (cVar 0) (cK .non))) (sRet (cK (.str "none"))) sNext)
    (sSeq (sIf (bTru (cFun fIsi [(cVar 0), (cK (.ty "int"))])) (sRet (cFun fStr [(cVar 0)])) sNext)
    (sSeq (sIf (bTru (cFun fIsi [(cVar 0), (cK (.ty "str"))])) (sRet (cIf (bOf (cBin (dEq true) (cVar 0) (cK (.str "")))) (cVar 0) (cK (.str ".")))) sNext)
    (sRet (cBin dAdd (cBin dAdd (cK (.str "(")) (cJoin (cK (.str " ")) (cVal (cLc (cIt itT (cVar 0)) (.nm 1) bYes (cCall F_law_text [(cVar 1)]) [1])))) (cK (.str ")")))))))
theorem ok_law_text {F_law_text : CF} (T : Txt K mg a) (nd : base.NoDigits) (G_law_text : FnOk P w K mg base (L2.CX P w) k a.f_law_text a.d_law_text p__law_text (spV ⟨K, a.cm⟩ (p__law_text : List Str).length F_law_text)) :
    FnOk P w K mg base (L2.CX P w) (k + 1) a.f_law_text a.d_law_text p__law_text (spV ⟨K, a.cm⟩ (p__law_text : List Str).length (runF (n__law_text : List Str).length (c_law_text F_law_text))) := by
  refine fn_bodyC T.U_law_text sc_law_text (by decide) fun cdv A outer s H E hr tk po => ?_
  unfold c_law_text
  exact (ss_cons (s_if (b_cmp o_isN (e_var (pe_var (i := 0) rfl (Or.inl rfl))) e_non (nomark _)) (ss_one (s_ret e_str)) ss_nil)
    (ss_cons (s_if (b_tru (e_callB c_isi (by exact rfl) T.Z_isinstance (by decide +kernel) (a_cons (e_var (pe_var (i := 0) rfl (Or.inl rfl))) (a_cons (e_ty (by exact rfl) T.Z_int (by decide +kernel)) a_nil)))) (ss_one (s_ret (e_callT (c_str rfl nd) (by exact rfl) T.Z_str (by decide +kernel) (a_cons (e_var (pe_var (i := 0) rfl (Or.inl rfl))) a_nil)))) ss_nil)
    (ss_cons (s_if (b_tru (e_callB c_isi (by exact rfl) T.Z_isinstance (by decide +kernel) (a_cons (e_var (pe_var (i := 0) rfl (Or.inl rfl))) (a_cons (e_ty (by exact rfl) T.Z_str (by decide +kernel)) a_nil)))) (ss_one (s_ret (e_ifx (b_cmp (o_ne hr) (e_var (pe_var (i := 0) rfl (Or.inl rfl))) e_str (nomark _)) (e_var (pe_var (i := 0) rfl (Or.inl rfl))) e_str))) ss_nil)
    (ss_one (s_ret (e_bin o_add (e_bin o_add e_str (e_join e_str (e_val (f_lc (own := [("entry", 1)]) rfl sc_law_text.nd (i_tup (e_var (pe_var (i := 0) rfl (Or.inl rfl)))) (blkOk_by (N := n__law_text) (sc := defScope (top 24)) (own := [("entry", 1)]) (by decide +kernel)) (fun _ _ _ _ _ => (g_nm (pg_name (i := 1) sc_law_text.nd rfl (Or.inl rfl)))) (fun _ _ _ _ _ => c_yes) (fun _ _ _ _ _ => (e_call G_law_text hr (by exact rfl) T.M_law_text T.U_law_text.kp T.B_law_text takes_W0 (a_cons (e_var (pe_var (i := 1) rfl (Or.inl rfl))) a_nil))))))) e_str))))))
def c_law_integer : CS :=
  (sSeq (sSet 2 (cVar 1))
    (sSeq (sIf (bOf (cBin (dEq false) (cSl slS (cVar 0) (pSm (cVar 1)) (pSm (cBin dAdd (cVar 1) (cK (.int 1))))) (cK (.str "-")))) (sSeq (sSet 1 (cBin dAdd (cVar 1) (cK (.int 1))))
    (sIf (bOf (cBin (dEq false) (cSl slS (cVar 0) (pSm (cVar 1)) (pSm (cBin dAdd (cVar 1) (cK (.int 1))))) (cK (.str "0")))) (sRet (cVal (cLst [(cK (.str "bad")), (cVar 1)]))) sNext)) sNext)
    (sSeq (sSet 3 (cVar 1))
    (sSeq (sFor (cRng1 [(cFun fLen [(cVar 0)])]) (.nm 4) (sIf (bAnd (bOf (cBin (dCmpI fun i j => decide (i < j)) (cVar 1) (cFun fLen [(cVar 0)]))) (bOf (cBin (dInS false) (cBin dIx (cVar 0) (cVar 1)) (cK (.str "0123456789"))))) (sSet 1 (cBin dAdd (cVar 1) (cK (.int 1)))) sNext))
    (sSeq (sIf (bOf (cBin (dEq false) (cVar 1) (cVar 3))) (sRet (cVal (cLst [(cK (.str "bad")), (cVar 1)]))) sNext)
    (sSeq (sIf (bAnd (bOf (cBin (dEq false) (cBin dIx (cVar 0) (cVar 3)) (cK (.str "0")))) (bOf (cBin (dCmpI fun i j => decide (j < i)) (cVar 1) (cBin dAdd (cVar 3) (cK (.int 1)))))) (sRet (cVal (cLst [(cK (.str "bad")), (cBin dAdd (cVar 3) (cK (.int 1)))]))) sNext)
    (sSeq (sIf (bOf (cBin (dCmpI fun i j => decide (j < i)) (cBin dSub (cVar 1) (cVar 3)) (cK (.int 20)))) (sRet (cVal (cLst [(cK (.str "bad")), (cBin dAdd (cVar 3) (cK (.int 20)))]))) sNext)
    (sRet (cVal (cLst [(cFun fInt [(cSl slS (cVar 0) (pSm (cVar 2)) (pSm (cVar 1)))]), (cVar 1)]))))))))))
theorem ok_law_integer (T : Txt K mg a) :
    FnOk P w K mg base (L2.CX P w) (k + 1) a.f_law_integer a.d_law_integer p__law_integer (spV ⟨K, a.cm⟩ (p__law_integer : List Str).length (runF (n__law_integer : List Str).length c_law_integer)) := by
  refine fn_bodyC T.U_law_integer sc_law_integer (by decide) fun cdv A outer s H E hr tk po => ?_
  unfold c_law_integer
  exact (ss_cons (s_set (i := 2) sc_law_integer.nd rfl (Or.inl rfl) (e_var (pe_var (i := 1) rfl (Or.inl rfl))))
    (ss_cons (s_if (b_cmp (o_eq hr) (e_sl l_str (e_var (pe_var (i := 0) rfl (Or.inl rfl))) (p_sm (e_var (pe_var (i := 1) rfl (Or.inl rfl)))) (p_sm (e_bin o_add (e_var (pe_var (i := 1) rfl (Or.inl rfl))) e_int))) e_str (nomark _)) (ss_cons (s_set (i := 1) sc_law_integer.nd rfl (Or.inl rfl) (e_bin o_add (e_var (pe_var (i := 1) rfl (Or.inl rfl))) e_int))
    (ss_one (s_if (b_cmp (o_eq hr) (e_sl l_str (e_var (pe_var (i := 0) rfl (Or.inl rfl))) (p_sm (e_var (pe_var (i := 1) rfl (Or.inl rfl)))) (p_sm (e_bin o_add (e_var (pe_var (i := 1) rfl (Or.inl rfl))) e_int))) e_str (nomark _)) (ss_one (s_ret (e_val (f_lst (a_cons e_str (a_cons (e_var (pe_var (i := 1) rfl (Or.inl rfl))) a_nil)) (Nat.le_of_ble_eq_true rfl))))) ss_nil))) ss_nil)
    (ss_cons (s_set (i := 3) sc_law_integer.nd rfl (Or.inl rfl) (e_var (pe_var (i := 1) rfl (Or.inl rfl))))
    (ss_cons (s_for po rfl (i_rng1 (by exact rfl) T.Z_range (a_cons (e_callB c_len (by exact rfl) T.Z_len (by decide +kernel) (a_cons (e_var (pe_var (i := 0) rfl (Or.inl rfl))) a_nil)) a_nil)) (g_nm (pg_name (i := 4) sc_law_integer.nd rfl (Or.inl rfl))) (ss_one (s_if (w_and (b_cmp o_lt (e_var (pe_var (i := 1) rfl (Or.inl rfl))) (e_callB c_len (by exact rfl) T.Z_len (by decide +kernel) (a_cons (e_var (pe_var (i := 0) rfl (Or.inl rfl))) a_nil)) (nomark _)) (w_and1 (b_cmp o_inS (e_ix (e_var (pe_var (i := 0) rfl (Or.inl rfl))) (e_var (pe_var (i := 1) rfl (Or.inl rfl))) (fun _ _ => rfl)) e_str rfl))).pt (ss_one (s_set (i := 1) sc_law_integer.nd rfl (Or.inl rfl) (e_bin o_add (e_var (pe_var (i := 1) rfl (Or.inl rfl))) e_int))) ss_nil)))
    (ss_cons (s_if (b_cmp (o_eq hr) (e_var (pe_var (i := 1) rfl (Or.inl rfl))) (e_var (pe_var (i := 3) rfl (Or.inl rfl))) (nomark _)) (ss_one (s_ret (e_val (f_lst (a_cons e_str (a_cons (e_var (pe_var (i := 1) rfl (Or.inl rfl))) a_nil)) (Nat.le_of_ble_eq_true rfl))))) ss_nil)
    (ss_cons (s_if (w_and (b_cmp (o_eq hr) (e_ix (e_var (pe_var (i := 0) rfl (Or.inl rfl))) (e_var (pe_var (i := 3) rfl (Or.inl rfl))) (fun _ _ => rfl)) e_str (nomark _)) (w_and1 (b_cmp o_gt (e_var (pe_var (i := 1) rfl (Or.inl rfl))) (e_bin o_add (e_var (pe_var (i := 3) rfl (Or.inl rfl))) e_int) (nomark _)))).pt (ss_one (s_ret (e_val (f_lst (a_cons e_str (a_cons (e_bin o_add (e_var (pe_var (i := 3) rfl (Or.inl rfl))) e_int) a_nil)) (Nat.le_of_ble_eq_true rfl))))) ss_nil)
    (ss_cons (s_if (b_cmp o_gt (e_bin o_sub (e_var (pe_var (i := 1) rfl (Or.inl rfl))) (e_var (pe_var (i := 3) rfl (Or.inl rfl)))) e_int (nomark _)) (ss_one (s_ret (e_val (f_lst (a_cons e_str (a_cons (e_bin o_add (e_var (pe_var (i := 3) rfl (Or.inl rfl))) e_int) a_nil)) (Nat.le_of_ble_eq_true rfl))))) ss_nil)
    (ss_one (s_ret (e_val (f_lst (a_cons (e_callT c_int (by exact rfl) T.Z_int (by decide +kernel) (a_cons (e_sl l_str (e_var (pe_var (i := 0) rfl (Or.inl rfl))) (p_sm (e_var (pe_var (i := 2) rfl (Or.inl rfl)))) (p_sm (e_var (pe_var (i := 1) rfl (Or.inl rfl))))) a_nil)) (a_cons (e_var (pe_var (i := 1) rfl (Or.inl rfl))) a_nil)) (Nat.le_of_ble_eq_true rfl))))))))))))
def c_law_read (F_law_entries F_law_integer : CF) : CS :=
  (sSeq (sSet 3 (cSl slS (cVar 0) (pSm (cVar 1)) (pSm (cBin dAdd (cVar 1) (cK (.int 1))))))
    (sSeq (sIf (bOf (cBin (dEq false) (cVar 3) (cK (.str "(")))) (sSeq (sIf (bOf (cBin (dEq false) (cVar 2) (cK (.int 24)))) (sRet (cVal (cLst [(cK (.str "bad")), (cVar 1)]))) sNext)
    (sRet (cCall F_law_entries [(cVar 0), (cBin dAdd (cVar 1) (cK (.int 1))), (cBin dAdd (cVar 2) (cK (.int 1)))]))) sNext)
    (sSeq (sIf (bOf (cBin (dEq false) (cVar 3) (cK (.str ".")))) (sRet (cVal (cLst [(cK (.str "")), (cBin dAdd (cVar 1) (cK (.int 1)))]))) sNext)
    (sSeq (sIf (bAnd (bOf (cBin (dEq true) (cVar 3) (cK (.str "")))) (bOf (cBin (dInS false) (cVar 3) (cK (.str "abcdefghijklmnopqrstuvwxyz"))))) (sSeq (sSet 4 (cVar 1))
    (sSeq (sFor (cRng1 [(cFun fLen [(cVar 0)])]) (.nm 5) (sIf (bAnd (bOf (cBin (dCmpI fun i j => decide (i < j)) (cVar 4) (cFun fLen [(cVar 0)]))) (bOf (cBin (dInS false) (cBin dIx (cVar 0) (cVar 4)) (cK (.str "abcdefghijklmnopqrstuvwxyz"))))) (sSet 4 (cBin dAdd (cVar 4) (cK (.int 1)))) sNext))
    (sRet (cVal (cLst [(cIf (bOf (cBin (dEq false) (cSl slS (cVar 0) (pSm (cVar 1)) (pSm (cVar 4))) (cK (.str "none")))) (cK .non) (cSl slS (cVar 0) (pSm (cVar 1)) (pSm (cVar 4)))), (cVar 4)]))))) sNext)
    (sRet (cCall F_law_integer [(cVar 0), (cVar 1)]))))))
theorem ok_law_read {F_law_entries F_law_integer : CF} (T : Txt K mg a) (G_law_entries : FnOk P w K mg base (L2.CX P w) k a.f_law_entries a.d_law_entries p__law_entries (spV ⟨K, a.cm⟩ (p__law_entries : List Str).length F_law_entries)) (G_law_integer : FnOk P w K mg base (L2.CX P w) k a.f_law_integer a.d_law_integer p__law_integer (spV ⟨K, a.cm⟩ (p__law_integer : List Str).length F_law_integer)) :
    FnOk P w K mg base (L2.CX P w) (k + 1) a.f_law_read a.d_law_read p__law_read (spV ⟨K, a.cm⟩ (p__law_read : List Str).length (runF (n__law_read : List Str).length (c_law_read F_law_entries F_law_integer))) := by
  refine fn_bodyC T.U_law_read sc_law_read (by decide) fun cdv A outer s H E hr tk po => ?_
  unfold c_law_read
  exact (ss_cons (s_set (i := 3) sc_law_read.nd rfl (Or.inl rfl) (e_sl l_str (e_var (pe_var (i := 0) rfl (Or.inl rfl))) (p_sm (e_var (pe_var (i := 1) rfl (Or.inl rfl)))) (p_sm (e_bin o_add (e_var (pe_var (i := 1) rfl (Or.inl rfl))) e_int))))
    (ss_cons (s_if (b_cmp (o_eq hr) (e_var (pe_var (i := 3) rfl (Or.inl rfl))) e_str (nomark _)) (ss_cons (s_if (b_cmp (o_eq hr) (e_var (pe_var (i := 2) rfl (Or.inl rfl))) e_int (nomark _)) (ss_one (s_ret (e_val (f_lst (a_cons e_str (a_cons (e_var (pe_var (i := 1) rfl (Or.inl rfl))) a_nil)) (Nat.le_of_ble_eq_true rfl))))) ss_nil)
    (ss_one (s_ret (e_call G_law_entries hr (by exact rfl) T.M_law_entries T.U_law_entries.kp T.B_law_entries tk (a_cons (e_var (pe_var (i := 0) rfl (Or.inl rfl))) (a_cons (e_bin o_add (e_var (pe_var (i := 1) rfl (Or.inl rfl))) e_int) (a_cons (e_bin o_add (e_var (pe_var (i := 2) rfl (Or.inl rfl))) e_int) a_nil))))))) ss_nil)
    (ss_cons (s_if (b_cmp (o_eq hr) (e_var (pe_var (i := 3) rfl (Or.inl rfl))) e_str (nomark _)) (ss_one (s_ret (e_val (f_lst (a_cons e_str (a_cons (e_bin o_add (e_var (pe_var (i := 1) rfl (Or.inl rfl))) e_int) a_nil)) (Nat.le_of_ble_eq_true rfl))))) ss_nil)
    (ss_cons (s_if (w_and (b_cmp (o_ne hr) (e_var (pe_var (i := 3) rfl (Or.inl rfl))) e_str (nomark _)) (w_and1 (b_cmp o_inS (e_var (pe_var (i := 3) rfl (Or.inl rfl))) e_str rfl))).pt (ss_cons (s_set (i := 4) sc_law_read.nd rfl (Or.inl rfl) (e_var (pe_var (i := 1) rfl (Or.inl rfl))))
    (ss_cons (s_for po rfl (i_rng1 (by exact rfl) T.Z_range (a_cons (e_callB c_len (by exact rfl) T.Z_len (by decide +kernel) (a_cons (e_var (pe_var (i := 0) rfl (Or.inl rfl))) a_nil)) a_nil)) (g_nm (pg_name (i := 5) sc_law_read.nd rfl (Or.inl rfl))) (ss_one (s_if (w_and (b_cmp o_lt (e_var (pe_var (i := 4) rfl (Or.inl rfl))) (e_callB c_len (by exact rfl) T.Z_len (by decide +kernel) (a_cons (e_var (pe_var (i := 0) rfl (Or.inl rfl))) a_nil)) (nomark _)) (w_and1 (b_cmp o_inS (e_ix (e_var (pe_var (i := 0) rfl (Or.inl rfl))) (e_var (pe_var (i := 4) rfl (Or.inl rfl))) (fun _ _ => rfl)) e_str rfl))).pt (ss_one (s_set (i := 4) sc_law_read.nd rfl (Or.inl rfl) (e_bin o_add (e_var (pe_var (i := 4) rfl (Or.inl rfl))) e_int))) ss_nil)))
    (ss_one (s_ret (e_val (f_lst (a_cons (e_ifx (b_cmp (o_eq hr) (e_sl l_str (e_var (pe_var (i := 0) rfl (Or.inl rfl))) (p_sm (e_var (pe_var (i := 1) rfl (Or.inl rfl)))) (p_sm (e_var (pe_var (i := 4) rfl (Or.inl rfl))))) e_str (nomark _)) e_non (e_sl l_str (e_var (pe_var (i := 0) rfl (Or.inl rfl))) (p_sm (e_var (pe_var (i := 1) rfl (Or.inl rfl)))) (p_sm (e_var (pe_var (i := 4) rfl (Or.inl rfl)))))) (a_cons (e_var (pe_var (i := 4) rfl (Or.inl rfl))) a_nil)) (Nat.le_of_ble_eq_true rfl))))))) ss_nil)
    (ss_one (s_ret (e_call G_law_integer hr (by exact rfl) T.M_law_integer T.U_law_integer.kp T.B_law_integer tk (a_cons (e_var (pe_var (i := 0) rfl (Or.inl rfl))) (a_cons (e_var (pe_var (i := 1) rfl (Or.inl rfl))) a_nil)))))))))
def c_law_entries (F_law_read : CF) : CS :=
  (sSeq (sOwn 3 (cLst []))
    (sSeq (sFor (cRng1 [(cBin dAdd (cFun fLen [(cVar 0)]) (cK (.int 1)))]) (.nm 4) (sSeq (sIf (bOf (cBin (dEq false) (cSl slS (cVar 0) (pSm (cVar 1)) (pSm (cBin dAdd (cVar 1) (cK (.int 1))))) (cK (.str ")")))) (sRet (cVal (cLst [(cFun fTup [(cVar 3)]), (cBin dAdd (cVar 1) (cK (.int 1)))]))) sNext)
    (sSeq (sIf (bTru (cVar 3)) (sSeq (sIf (bOf (cBin (dEq true) (cSl slS (cVar 0) (pSm (cVar 1)) (pSm (cBin dAdd (cVar 1) (cK (.int 1))))) (cK (.str " ")))) (sRet (cVal (cLst [(cK (.str "bad")), (cVar 1)]))) sNext)
    (sSet 1 (cBin dAdd (cVar 1) (cK (.int 1))))) sNext)
    (sSeq (sAsgL [(.nm 5), (.nm 6)] (cCall F_law_read [(cVar 0), (cVar 1), (cVar 2)]))
    (sSeq (sIf (bAnd (bOf (cBin (dEq false) (cVar 5) (cK (.str "bad")))) (bTru (cFun fIsi [(cVar 5), (cK (.ty "str"))]))) (sRet (cVal (cLst [(cVar 5), (cVar 6)]))) sNext)
    (sSeq (sMut 3 mApp [(cVar 5)] fun _ ρ S => .nx ρ S)
    (sSet 1 (cVar 6))))))))
    (sRet (cVal (cLst [(cK (.str "bad")), (cVar 1)])))))
theorem ok_law_entries {F_law_read : CF} (T : Txt K mg a) (G_law_read : FnOk P w K mg base (L2.CX P w) k a.f_law_read a.d_law_read p__law_read (spV ⟨K, a.cm⟩ (p__law_read : List Str).length F_law_read)) :
    FnOk P w K mg base (L2.CX P w) (k + 1) a.f_law_entries a.d_law_entries p__law_entries (spV ⟨K, a.cm⟩ (p__law_entries : List Str).length (runF (n__law_entries : List Str).length (c_law_entries F_law_read))) := by
  refine fn_bodyC T.U_law_entries sc_law_entries (by decide) fun cdv A outer s H E hr tk po => ?_
  unfold c_law_entries
  exact (ss_cons (s_own (i := 3) sc_law_entries.nd rfl (Or.inl rfl) (f_lst a_nil (Nat.le_of_ble_eq_true rfl)))
    (ss_cons (s_for po rfl (i_rng1 (by exact rfl) T.Z_range (a_cons (e_bin o_add (e_callB c_len (by exact rfl) T.Z_len (by decide +kernel) (a_cons (e_var (pe_var (i := 0) rfl (Or.inl rfl))) a_nil)) e_int) a_nil)) (g_nm (pg_name (i := 4) sc_law_entries.nd rfl (Or.inl rfl))) (ss_cons (s_if (b_cmp (o_eq hr) (e_sl l_str (e_var (pe_var (i := 0) rfl (Or.inl rfl))) (p_sm (e_var (pe_var (i := 1) rfl (Or.inl rfl)))) (p_sm (e_bin o_add (e_var (pe_var (i := 1) rfl (Or.inl rfl))) e_int))) e_str (nomark _)) (ss_one (s_ret (e_val (f_lst (a_cons (e_callT c_tup (by exact rfl) T.Z_tuple (by decide +kernel) (a_cons (e_var (pe_var (i := 3) rfl (Or.inl rfl))) a_nil)) (a_cons (e_bin o_add (e_var (pe_var (i := 1) rfl (Or.inl rfl))) e_int) a_nil)) (Nat.le_of_ble_eq_true rfl))))) ss_nil)
    (ss_cons (s_if (b_tru (e_var (pe_var (i := 3) rfl (Or.inl rfl)))) (ss_cons (s_if (b_cmp (o_ne hr) (e_sl l_str (e_var (pe_var (i := 0) rfl (Or.inl rfl))) (p_sm (e_var (pe_var (i := 1) rfl (Or.inl rfl)))) (p_sm (e_bin o_add (e_var (pe_var (i := 1) rfl (Or.inl rfl))) e_int))) e_str (nomark _)) (ss_one (s_ret (e_val (f_lst (a_cons e_str (a_cons (e_var (pe_var (i := 1) rfl (Or.inl rfl))) a_nil)) (Nat.le_of_ble_eq_true rfl))))) ss_nil)
    (ss_one (s_set (i := 1) sc_law_entries.nd rfl (Or.inl rfl) (e_bin o_add (e_var (pe_var (i := 1) rfl (Or.inl rfl))) e_int)))) ss_nil)
    (ss_cons (s_asgL rfl (e_call G_law_read hr (by exact rfl) T.M_law_read T.U_law_read.kp T.B_law_read tk (a_cons (e_var (pe_var (i := 0) rfl (Or.inl rfl))) (a_cons (e_var (pe_var (i := 1) rfl (Or.inl rfl))) (a_cons (e_var (pe_var (i := 2) rfl (Or.inl rfl))) a_nil)))) (gs_cons (g_nm (pg_name (i := 5) sc_law_entries.nd rfl (Or.inl rfl))) (gs_cons (g_nm (pg_name (i := 6) sc_law_entries.nd rfl (Or.inl rfl))) gs_nil)) rfl)
    (ss_cons (s_if (w_and (b_cmp (o_eq hr) (e_var (pe_var (i := 5) rfl (Or.inl rfl))) e_str (nomark _)) (w_and1 (b_tru (e_callB c_isi (by exact rfl) T.Z_isinstance (by decide +kernel) (a_cons (e_var (pe_var (i := 5) rfl (Or.inl rfl))) (a_cons (e_ty (by exact rfl) T.Z_str (by decide +kernel)) a_nil)))))).pt (ss_one (s_ret (e_val (f_lst (a_cons (e_var (pe_var (i := 5) rfl (Or.inl rfl))) (a_cons (e_var (pe_var (i := 6) rfl (Or.inl rfl))) a_nil)) (Nat.le_of_ble_eq_true rfl))))) ss_nil)
    (ss_cons (s_mutE m_app (pe_bm PySem.F.plainAttrs_list PySem.F.slot_list_append PySem.F.type_list_append mt_append (pe_var (i := 3) rfl (Or.inl rfl)) (a_cons (e_var (pe_var (i := 5) rfl (Or.inl rfl))) a_nil)))
    (ss_one (s_set (i := 1) sc_law_entries.nd rfl (Or.inl rfl) (e_var (pe_var (i := 6) rfl (Or.inl rfl)))))))))))
    (ss_one (s_ret (e_val (f_lst (a_cons e_str (a_cons (e_var (pe_var (i := 1) rfl (Or.inl rfl))) a_nil)) (Nat.le_of_ble_eq_true rfl)))))))
def c_law_due (F_law_read : CF) : CS :=
  (sSeq (sAsgL [(.nm 1), (.nm 2)] (cCall F_law_read [(cVar 0), (cK (.int 0)), (cK (.int 0))]))
    (sSeq (sIf (bAnd (bTru (cFun fIsi [(cVar 1), (cK (.ty "str"))])) (bOf (cBin (dEq false) (cVar 1) (cK (.str "bad"))))) (sRet (cVal (cLst [(cK (.str "bad")), (cVar 2)]))) sNext)
    (sRet (cIf (bOf (cBin (dCmpI fun i j => decide (i < j)) (cVar 2) (cFun fLen [(cVar 0)]))) (cVal (cLst [(cK (.str "bad")), (cVar 2)])) (cVal (cLst [(cK (.str "term")), (cVar 1)]))))))
theorem ok_law_due {F_law_read : CF} (T : Txt K mg a) (G_law_read : FnOk P w K mg base (L2.CX P w) k a.f_law_read a.d_law_read p__law_read (spV ⟨K, a.cm⟩ (p__law_read : List Str).length F_law_read)) :
    FnOk P w K mg base (L2.CX P w) (k + 1) a.f_law_due a.d_law_due p__law_due (spV ⟨K, a.cm⟩ (p__law_due : List Str).length (runF (n__law_due : List Str).length (c_law_due F_law_read))) := by
  refine fn_bodyC T.U_law_due sc_law_due (by decide) fun cdv A outer s H E hr tk po => ?_
  unfold c_law_due
  exact (ss_cons (s_asgL rfl (e_call G_law_read hr (by exact rfl) T.M_law_read T.U_law_read.kp T.B_law_read tk (a_cons (e_var (pe_var (i := 0) rfl (Or.inl rfl))) (a_cons e_int (a_cons e_int a_nil)))) (gs_cons (g_nm (pg_name (i := 1) sc_law_due.nd rfl (Or.inl rfl))) (gs_cons (g_nm (pg_name (i := 2) sc_law_due.nd rfl (Or.inl rfl))) gs_nil)) rfl)
    (ss_cons (s_if (w_and (b_tru (e_callB c_isi (by exact rfl) T.Z_isinstance (by decide +kernel) (a_cons (e_var (pe_var (i := 1) rfl (Or.inl rfl))) (a_cons (e_ty (by exact rfl) T.Z_str (by decide +kernel)) a_nil)))) (w_and1 (b_cmp (o_eq hr) (e_var (pe_var (i := 1) rfl (Or.inl rfl))) e_str (nomark _)))).pt (ss_one (s_ret (e_val (f_lst (a_cons e_str (a_cons (e_var (pe_var (i := 2) rfl (Or.inl rfl))) a_nil)) (Nat.le_of_ble_eq_true rfl))))) ss_nil)
    (ss_one (s_ret (e_ifx (b_cmp o_lt (e_var (pe_var (i := 2) rfl (Or.inl rfl))) (e_callB c_len (by exact rfl) T.Z_len (by decide +kernel) (a_cons (e_var (pe_var (i := 0) rfl (Or.inl rfl))) a_nil)) (nomark _)) (e_val (f_lst (a_cons e_str (a_cons (e_var (pe_var (i := 2) rfl (Or.inl rfl))) a_nil)) (Nat.le_of_ble_eq_true rfl))) (e_val (f_lst (a_cons e_str (a_cons (e_var (pe_var (i := 1) rfl (Or.inl rfl))) a_nil)) (Nat.le_of_ble_eq_true rfl))))))))
def c_law_told (F_read_term : CF) : CS :=
  (sTry 2 (sRet (cVal (cLst [(cK (.str "term")), (cCall F_read_term [(cVar 0)])]))) (gTag 1 "bad" "at"))
theorem ok_law_told {F_read_term : CF} (T : Txt K mg a) (G_read_term : FnOk P w K mg base (L2.CX P w) k a.f_read_term a.d_read_term p_read_term (spV ⟨K, a.cm⟩ (p_read_term : List Str).length F_read_term)) :
    FnOk P w K mg base (L2.CX P w) (k + 1) a.f_law_told a.d_law_told p__law_told (spV ⟨K, a.cm⟩ (p__law_told : List Str).length (runF (n__law_told : List Str).length (c_law_told F_read_term))) := by
  refine fn_bodyC T.U_law_told sc_law_told (by decide) fun cdv A outer s H E hr tk po => ?_
  unfold c_law_told
  exact (ss_one (s_tryTag (c := 2) (i := 1) rfl rfl sc_law_told.nd rfl rfl (Or.inl rfl) ⟨rfl, by decide, Or.inl T.M_Malformed⟩ T.te_Malformed tk T.xg_Malformed (fun W pn xe tkt po => (ss_one (s_ret (e_val (f_lst (a_cons e_str (a_cons (e_call G_read_term hr (by exact rfl) T.M_read_term T.U_read_term.kp T.B_read_term tkt (a_cons (e_var (pe_var (i := 0) rfl (Or.inl rfl))) a_nil)) a_nil)) (Nat.le_of_ble_eq_true rfl))))))))
def c_law_refused (F_term_text : CF) : CS :=
  (sTry 1 (sSeq (sExpr (cCall F_term_text [(cVar 0)]))
    (sRet (cK (.bl false)))) fun _ => (sRet (cK (.bl true))))
theorem ok_law_refused {F_term_text : CF} (T : Txt K mg a) (G_term_text : FnOk P w K mg base (L2.CX P w) k a.f_term_text a.d_term_text p_term_text (spV ⟨K, a.cm⟩ (p_term_text : List Str).length F_term_text)) :
    FnOk P w K mg base (L2.CX P w) (k + 1) a.f_law_refused a.d_law_refused p__law_refused (spV ⟨K, a.cm⟩ (p__law_refused : List Str).length (runF (n__law_refused : List Str).length (c_law_refused F_term_text))) := by
  refine fn_bodyC T.U_law_refused sc_law_refused (by decide) fun cdv A outer s H E hr tk po => ?_
  unfold c_law_refused
  exact (ss_one (s_tryOnly (c := 1) rfl rfl ⟨rfl, by decide, Or.inl T.M_BadNumber⟩ T.te_BadNumber tk (fun W pn xe tkt po => (ss_cons (s_expr (e_call G_term_text hr (by exact rfl) T.M_term_text T.U_term_text.kp T.B_term_text tkt (a_cons (e_var (pe_var (i := 0) rfl (Or.inl rfl))) a_nil)))
    (ss_one (s_ret e_bl)))) (fun _ _ _ => (ss_one (s_ret e_bl)))))
def c_law (F_law_draws F_law_more F_term_text F_read_term F_law_term F_law_text F_law_told F_law_next F_law_pick F_law_due F_law_refused : CF) : CS :=
  (sSeq (sSet 1 (cCall F_law_draws [(cVar 0)]))
    (sSeq (sSet 1 (cCall F_law_more [(cVar 1), (cK (.int 120))]))
    (sSeq (sSet 2 (cTup [(cTup [(cK (.int 1)), (cK (.int 2))]), (cTup [(cK (.int 1)), (cK (.int 1))])]))
    (sSeq (sIf (bOr (bOf (cBin (dEq true) (cCall F_term_text [(cVar 2)]) (cK (.str "((1 2) (1 1))")))) (bOf (cBin (dEq true) (cFun fRepr [(cCall F_read_term [(cK (.str "(. none (-5))"))])]) (cFun fRepr [(cTup [(cK (.str "")), (cK .non), (cTup [(cUn dNeg (cK (.int 5)))])])])))) (sRet (cK (.bl false))) sNext)
    (sSeq (sFor (cRng1 [(cK (.int 4))]) (.nm 3) (sSeq (sSet 4 (cCall F_law_term [(cVar 1), (cK (.int 0))]))
    (sSeq (sSet 5 (cCall F_law_text [(cVar 4)]))
    (sSeq (sIf (bOr (bOf (cBin (dEq true) (cCall F_term_text [(cVar 4)]) (cVar 5))) (bOf (cBin (dEq true) (cFun fRepr [(cCall F_law_told [(cVar 5)])]) (cFun fRepr [(cVal (cLst [(cK (.str "term")), (cVar 4)]))])))) (sRet (cK (.bl false))) sNext)
    (sSeq (sIf (bAnd (bTru (cFun fIsi [(cVar 4), (cK (.ty "tuple"))])) (bOf (cBin (dEq true) (cCall F_term_text [(cFun fLst [(cVar 4)])]) (cVar 5)))) (sRet (cK (.bl false))) sNext)
    (sFor (cRng1 [(cK (.int 5))]) (.nm 6) (sSeq (sSet 7 (cBin dMod (cFun fInt [(cCall F_law_next [(cVar 1)])]) (cBin dAdd (cFun fLen [(cVar 5)]) (cK (.int 1)))))
    (sSeq (sSet 8 (cBin dMod (cFun fInt [(cCall F_law_next [(cVar 1)])]) (cK (.int 2))))
    (sSeq (sSet 9 (cCall F_law_pick [(cVar 1), (cVal (cLst [(cK (.str "")), (cK (.str " ")), (cK (.str "(")), (cK (.str ")")), (cK (.str "-")), (cK (.str "0")), (cK (.str "7")), (cK (.str "a")), (cK (.str ".")), (cK (.str "A")), (cK (.str "_")), (cK (.str "\t"))]))]))
    (sSeq (sSet 10 (cBin dAdd (cBin dAdd (cSl slS (cVar 5) pNo (pSm (cVar 7))) (cVar 9)) (cSl slS (cVar 5) (pSm (cBin dAdd (cVar 7) (cVar 8))) pNo)))
    (sIf (bAnd (bOf (cBin (dInS true) (cK (.str "bad")) (cVar 10))) (bOf (cBin (dEq true) (cFun fRepr [(cCall F_law_told [(cVar 10)])]) (cFun fRepr [(cCall F_law_due [(cVar 10)])])))) (sRet (cK (.bl false))) sNext)))))))))))
    (sSeq (sSet 11 (cBin dAdd (cBin dAdd (cBin dRepS (cK (.str "(")) (cK (.int 24))) (cK (.str "5"))) (cBin dRepS (cK (.str ")")) (cK (.int 24)))))
    (sSeq (sSet 12 (cVal (cLst [(cK (.str "")), (cK (.str "(")), (cK (.str "()")), (cK (.str "( )")), (cK (.str "(1 )")), (cK (.str "(1  2)")), (cK (.str "(1 2")), (cK (.str "1 2")), (cK (.str "-0")), (cK (.str "00")), (cK (.str "01")), (cK (.str "-")), (cBin dRepS (cK (.str "1")) (cK (.int 20))), (cBin dRepS (cK (.str "1")) (cK (.int 21))), (cBin dAdd (cK (.str "-")) (cBin dRepS (cK (.str "9")) (cK (.int 21)))), (cVar 11), (cBin dAdd (cBin dAdd (cK (.str "(")) (cVar 11)) (cK (.str ")"))), (cK (.str "()()")), (cK (.str "(a.)")), (cK (.str "5a")), (cK (.str "a5"))])))
    (sSeq (sSet 12 (cVal (cCat (cVar 12) (cVal (cLst [(cK (.str "none")), (cK (.str "..")), (cK (.str ")"))])))))
    (sSeq (sIf (bOf (cBin (dEq true) (cVal (cLc (cIt itL (cVar 12)) (.nm 5) bYes (cFun fRepr [(cCall F_law_told [(cVar 5)])]) [5])) (cVal (cLc (cIt itL (cVar 12)) (.nm 5) bYes (cFun fRepr [(cCall F_law_due [(cVar 5)])]) [5])))) (sRet (cK (.bl false))) sNext)
    (sSeq (sSet 13 (cK (.int 1)))
    (sSeq (sFor (cRng1 [(cK (.int 4000))]) (.nm 3) (sSet 13 (cBin dMul (cK (.int 10)) (cVar 13))))
    (sSeq (sIf (bOr (bOf (cBin (dEq true) (cCall F_term_text [(cBin dSub (cVar 13) (cK (.int 1)))]) (cBin dRepS (cK (.str "9")) (cK (.int 4000))))) (bOr (bOf (cBin (dEq true) (cCall F_term_text [(cBin dSub (cK (.int 1)) (cVar 13))]) (cBin dAdd (cK (.str "-")) (cBin dRepS (cK (.str "9")) (cK (.int 4000)))))) (bNot (bTru (cCall F_law_refused [(cVar 13)]))))) (sRet (cK (.bl false))) sNext)
    (sRet (cBin (dEq false) (cVal (cLc (cIt itL (cVal (cLst [(cK (.str "none")), (cK (.str "A")), (cK (.str "a b")), (cTup [(cK (.str "ok")), (cK (.str "x1"))]), (cTup [(cTup [(cK (.str "none"))])])]))) (.nm 4) bYes (cCall F_law_refused [(cVar 4)]) [4])) (cVal (cRepL (cVal (cLst [(cK (.bl true))])) (cK (.int 5))))))))))))))))))
theorem ok_law {F_law_draws F_law_more F_term_text F_read_term F_law_term F_law_text F_law_told F_law_next F_law_pick F_law_due F_law_refused : CF} (hr0 : Room (k + 1) callerA) (hk : 60 ≤ k) (T : Txt K mg a) (G_law_draws : FnOk P w K mg base (L2.CX P w) k a.f_law_draws a.d_law_draws p__law_draws (spV ⟨K, a.cm⟩ (p__law_draws : List Str).length F_law_draws)) (G_law_more : FnOk P w K mg base (L2.CX P w) k a.f_law_more a.d_law_more p__law_more (spV ⟨K, a.cm⟩ (p__law_more : List Str).length F_law_more)) (G_term_text : FnOk P w K mg base (L2.CX P w) k a.f_term_text a.d_term_text p_term_text (spV ⟨K, a.cm⟩ (p_term_text : List Str).length F_term_text)) (G_read_term : FnOk P w K mg base (L2.CX P w) k a.f_read_term a.d_read_term p_read_term (spV ⟨K, a.cm⟩ (p_read_term : List Str).length F_read_term)) (G_law_term : FnOk P w K mg base (L2.CX P w) k a.f_law_term a.d_law_term p__law_term (spV ⟨K, a.cm⟩ (p__law_term : List Str).length F_law_term)) (G_law_text : FnOk P w K mg base (L2.CX P w) k a.f_law_text a.d_law_text p__law_text (spV ⟨K, a.cm⟩ (p__law_text : List Str).length F_law_text)) (G_law_told : FnOk P w K mg base (L2.CX P w) k a.f_law_told a.d_law_told p__law_told (spV ⟨K, a.cm⟩ (p__law_told : List Str).length F_law_told)) (G_law_next : FnOk P w K mg base (L2.CX P w) k a.f_law_next a.d_law_next p__law_next (spV ⟨K, a.cm⟩ (p__law_next : List Str).length F_law_next)) (G_law_pick : FnOk P w K mg base (L2.CX P w) k a.f_law_pick a.d_law_pick p__law_pick (spV ⟨K, a.cm⟩ (p__law_pick : List Str).length F_law_pick)) (G_law_due : FnOk P w K mg base (L2.CX P w) k a.f_law_due a.d_law_due p__law_due (spV ⟨K, a.cm⟩ (p__law_due : List Str).length F_law_due)) (G_law_refused : FnOk P w K mg base (L2.CX P w) k a.f_law_refused a.d_law_refused p__law_refused (spV ⟨K, a.cm⟩ (p__law_refused : List Str).length F_law_refused)) :
    FnL P w K mg base a.f_law a.d_law p_law (spV ⟨K, a.cm⟩ (p_law : List Str).length (runF (n_law : List Str).length (c_law F_law_draws F_law_more F_term_text F_read_term F_law_term F_law_text F_law_told F_law_next F_law_pick F_law_due F_law_refused))) := by
  refine fn_bodyL T.U_law sc_law (by decide) hr0 fun cdv outer s H E hr hgu tk po => ?_
  unfold c_law
  exact (ss_cons (s_set (i := 1) sc_law.nd rfl (Or.inl rfl) (e_call G_law_draws hr (by exact rfl) T.M_law_draws T.U_law_draws.kp T.B_law_draws tk (a_cons (e_var (pe_var (i := 0) rfl (Or.inl rfl))) a_nil)))
    (ss_cons (s_set (i := 1) sc_law.nd rfl (Or.inl rfl) (e_call G_law_more hr (by exact rfl) T.M_law_more T.U_law_more.kp T.B_law_more tk (a_cons (e_var (pe_var (i := 1) rfl (Or.inl rfl))) (a_cons e_int a_nil))))
    (ss_cons (s_set (i := 2) sc_law.nd rfl (Or.inl rfl) (e_tup (a_cons (e_tup (a_cons e_int (a_cons e_int a_nil)) (Nat.le_of_ble_eq_true rfl)) (a_cons (e_tup (a_cons e_int (a_cons e_int a_nil)) (Nat.le_of_ble_eq_true rfl)) a_nil)) (Nat.le_of_ble_eq_true rfl)))
    (ss_cons (s_if (w_or (b_cmp (o_ne hr) (e_call G_term_text hr (by exact rfl) T.M_term_text T.U_term_text.kp T.B_term_text tk (a_cons (e_var (pe_var (i := 2) rfl (Or.inl rfl))) a_nil)) e_str (nomark _)) (w_or1 (b_cmp (o_ne hr) (e_callB (c_repr hr hk hgu) (by exact rfl) T.Z_repr (by decide +kernel) (a_cons (e_call G_read_term hr (by exact rfl) T.M_read_term T.U_read_term.kp T.B_read_term tk (a_cons e_str a_nil)) a_nil)) (e_callB (c_repr hr hk hgu) (by exact rfl) T.Z_repr (by decide +kernel) (a_cons (e_tup (a_cons e_str (a_cons e_non (a_cons (e_tup (a_cons (e_un o_neg e_int) a_nil) (Nat.le_of_ble_eq_true rfl)) a_nil))) (Nat.le_of_ble_eq_true rfl)) a_nil)) (nomark _)))).pt (ss_one (s_ret e_bl)) ss_nil)
    (ss_cons (s_for po rfl (i_rng1 (by exact rfl) T.Z_range (a_cons e_int a_nil)) (g_nm (pg_name (i := 3) sc_law.nd rfl (Or.inl rfl))) (ss_cons (s_set (i := 4) sc_law.nd rfl (Or.inl rfl) (e_call G_law_term hr (by exact rfl) T.M_law_term T.U_law_term.kp T.B_law_term tk (a_cons (e_var (pe_var (i := 1) rfl (Or.inl rfl))) (a_cons e_int a_nil))))
    (ss_cons (s_set (i := 5) sc_law.nd rfl (Or.inl rfl) (e_call G_law_text hr (by exact rfl) T.M_law_text T.U_law_text.kp T.B_law_text tk (a_cons (e_var (pe_var (i := 4) rfl (Or.inl rfl))) a_nil)))
    (ss_cons (s_if (w_or (b_cmp (o_ne hr) (e_call G_term_text hr (by exact rfl) T.M_term_text T.U_term_text.kp T.B_term_text tk (a_cons (e_var (pe_var (i := 4) rfl (Or.inl rfl))) a_nil)) (e_var (pe_var (i := 5) rfl (Or.inl rfl))) (nomark _)) (w_or1 (b_cmp (o_ne hr) (e_callB (c_repr hr hk hgu) (by exact rfl) T.Z_repr (by decide +kernel) (a_cons (e_call G_law_told hr (by exact rfl) T.M_law_told T.U_law_told.kp T.B_law_told tk (a_cons (e_var (pe_var (i := 5) rfl (Or.inl rfl))) a_nil)) a_nil)) (e_callB (c_repr hr hk hgu) (by exact rfl) T.Z_repr (by decide +kernel) (a_cons (e_val (f_lst (a_cons e_str (a_cons (e_var (pe_var (i := 4) rfl (Or.inl rfl))) a_nil)) (Nat.le_of_ble_eq_true rfl))) a_nil)) (nomark _)))).pt (ss_one (s_ret e_bl)) ss_nil)
    (ss_cons (s_if (w_and (b_tru (e_callB c_isi (by exact rfl) T.Z_isinstance (by decide +kernel) (a_cons (e_var (pe_var (i := 4) rfl (Or.inl rfl))) (a_cons (e_ty (by exact rfl) T.Z_tuple (by decide +kernel)) a_nil)))) (w_and1 (b_cmp (o_ne hr) (e_call G_term_text hr (by exact rfl) T.M_term_text T.U_term_text.kp T.B_term_text tk (a_cons (e_callT c_lst (by exact rfl) T.Z_list (by decide +kernel) (a_cons (e_var (pe_var (i := 4) rfl (Or.inl rfl))) a_nil)) a_nil)) (e_var (pe_var (i := 5) rfl (Or.inl rfl))) (nomark _)))).pt (ss_one (s_ret e_bl)) ss_nil)
    (ss_one (s_for po rfl (i_rng1 (by exact rfl) T.Z_range (a_cons e_int a_nil)) (g_nm (pg_name (i := 6) sc_law.nd rfl (Or.inl rfl))) (ss_cons (s_set (i := 7) sc_law.nd rfl (Or.inl rfl) (e_bin o_mod (e_callT c_int (by exact rfl) T.Z_int (by decide +kernel) (a_cons (e_call G_law_next hr (by exact rfl) T.M_law_next T.U_law_next.kp T.B_law_next tk (a_cons (e_var (pe_var (i := 1) rfl (Or.inl rfl))) a_nil)) a_nil)) (e_bin o_add (e_callB c_len (by exact rfl) T.Z_len (by decide +kernel) (a_cons (e_var (pe_var (i := 5) rfl (Or.inl rfl))) a_nil)) e_int)))
    (ss_cons (s_set (i := 8) sc_law.nd rfl (Or.inl rfl) (e_bin o_mod (e_callT c_int (by exact rfl) T.Z_int (by decide +kernel) (a_cons (e_call G_law_next hr (by exact rfl) T.M_law_next T.U_law_next.kp T.B_law_next tk (a_cons (e_var (pe_var (i := 1) rfl (Or.inl rfl))) a_nil)) a_nil)) e_int))
    (ss_cons (s_set (i := 9) sc_law.nd rfl (Or.inl rfl) (e_call G_law_pick hr (by exact rfl) T.M_law_pick T.U_law_pick.kp T.B_law_pick tk (a_cons (e_var (pe_var (i := 1) rfl (Or.inl rfl))) (a_cons (e_val (f_lst (a_cons e_str (a_cons e_str (a_cons e_str (a_cons e_str (a_cons e_str (a_cons e_str (a_cons e_str (a_cons e_str (a_cons e_str (a_cons e_str (a_cons e_str (a_cons e_str a_nil)))))))))))) (Nat.le_of_ble_eq_true rfl))) a_nil))))
    (ss_cons (s_set (i := 10) sc_law.nd rfl (Or.inl rfl) (e_bin o_add (e_bin o_add (e_sl l_str (e_var (pe_var (i := 5) rfl (Or.inl rfl))) p_no (p_sm (e_var (pe_var (i := 7) rfl (Or.inl rfl))))) (e_var (pe_var (i := 9) rfl (Or.inl rfl)))) (e_sl l_str (e_var (pe_var (i := 5) rfl (Or.inl rfl))) (p_sm (e_bin o_add (e_var (pe_var (i := 7) rfl (Or.inl rfl))) (e_var (pe_var (i := 8) rfl (Or.inl rfl))))) p_no)))
    (ss_one (s_if (w_and (b_cmp o_notInS e_str (e_var (pe_var (i := 10) rfl (Or.inl rfl))) rfl) (w_and1 (b_cmp (o_ne hr) (e_callB (c_repr hr hk hgu) (by exact rfl) T.Z_repr (by decide +kernel) (a_cons (e_call G_law_told hr (by exact rfl) T.M_law_told T.U_law_told.kp T.B_law_told tk (a_cons (e_var (pe_var (i := 10) rfl (Or.inl rfl))) a_nil)) a_nil)) (e_callB (c_repr hr hk hgu) (by exact rfl) T.Z_repr (by decide +kernel) (a_cons (e_call G_law_due hr (by exact rfl) T.M_law_due T.U_law_due.kp T.B_law_due tk (a_cons (e_var (pe_var (i := 10) rfl (Or.inl rfl))) a_nil)) a_nil)) (nomark _)))).pt (ss_one (s_ret e_bl)) ss_nil)))))))))))))
    (ss_cons (s_set (i := 11) sc_law.nd rfl (Or.inl rfl) (e_bin o_add (e_bin o_add (e_bin o_repS e_str e_int) e_str) (e_bin o_repS e_str e_int)))
    (ss_cons (s_set (i := 12) sc_law.nd rfl (Or.inl rfl) (e_val (f_lst (a_cons e_str (a_cons e_str (a_cons e_str (a_cons e_str (a_cons e_str (a_cons e_str (a_cons e_str (a_cons e_str (a_cons e_str (a_cons e_str (a_cons e_str (a_cons e_str (a_cons (e_bin o_repS e_str e_int) (a_cons (e_bin o_repS e_str e_int) (a_cons (e_bin o_add e_str (e_bin o_repS e_str e_int)) (a_cons (e_var (pe_var (i := 11) rfl (Or.inl rfl))) (a_cons (e_bin o_add (e_bin o_add e_str (e_var (pe_var (i := 11) rfl (Or.inl rfl)))) e_str) (a_cons e_str (a_cons e_str (a_cons e_str (a_cons e_str a_nil))))))))))))))))))))) (Nat.le_of_ble_eq_true rfl))))
    (ss_cons (s_set (i := 12) sc_law.nd rfl (Or.inl rfl) (e_val (f_cat (e_var (pe_var (i := 12) rfl (Or.inl rfl))) (e_val (f_lst (a_cons e_str (a_cons e_str (a_cons e_str a_nil))) (Nat.le_of_ble_eq_true rfl))))))
    (ss_cons (s_if (b_cmp (o_ne hr) (e_val (f_lc (own := [("text", 5)]) rfl sc_law.nd (i_list (e_var (pe_var (i := 12) rfl (Or.inl rfl)))) (blkOk_by (N := n_law) (sc := defScope (top 31)) (own := [("text", 5)]) (by decide +kernel)) (fun _ _ _ _ _ => (g_nm (pg_name (i := 5) sc_law.nd rfl (Or.inl rfl)))) (fun _ _ _ _ _ => c_yes) (fun _ _ _ _ _ => (e_callB (c_repr hr hk hgu) (by exact rfl) T.Z_repr (by decide +kernel) (a_cons (e_call G_law_told hr (by exact rfl) T.M_law_told T.U_law_told.kp T.B_law_told takes_W0 (a_cons (e_var (pe_var (i := 5) rfl (Or.inl rfl))) a_nil)) a_nil))))) (e_val (f_lc (own := [("text", 5)]) rfl sc_law.nd (i_list (e_var (pe_var (i := 12) rfl (Or.inl rfl)))) (blkOk_by (N := n_law) (sc := defScope (top 31)) (own := [("text", 5)]) (by decide +kernel)) (fun _ _ _ _ _ => (g_nm (pg_name (i := 5) sc_law.nd rfl (Or.inl rfl)))) (fun _ _ _ _ _ => c_yes) (fun _ _ _ _ _ => (e_callB (c_repr hr hk hgu) (by exact rfl) T.Z_repr (by decide +kernel) (a_cons (e_call G_law_due hr (by exact rfl) T.M_law_due T.U_law_due.kp T.B_law_due takes_W0 (a_cons (e_var (pe_var (i := 5) rfl (Or.inl rfl))) a_nil)) a_nil))))) (nomark _)) (ss_one (s_ret e_bl)) ss_nil)
    (ss_cons (s_set (i := 13) sc_law.nd rfl (Or.inl rfl) e_int)
    (ss_cons (s_for po rfl (i_rng1 (by exact rfl) T.Z_range (a_cons e_int a_nil)) (g_nm (pg_name (i := 3) sc_law.nd rfl (Or.inl rfl))) (ss_one (s_set (i := 13) sc_law.nd rfl (Or.inl rfl) (e_bin o_mul e_int (e_var (pe_var (i := 13) rfl (Or.inl rfl)))))))
    (ss_cons (s_if (w_or (b_cmp (o_ne hr) (e_call G_term_text hr (by exact rfl) T.M_term_text T.U_term_text.kp T.B_term_text tk (a_cons (e_bin o_sub (e_var (pe_var (i := 13) rfl (Or.inl rfl))) e_int) a_nil)) (e_bin o_repS e_str e_int) (nomark _)) (w_or (b_cmp (o_ne hr) (e_call G_term_text hr (by exact rfl) T.M_term_text T.U_term_text.kp T.B_term_text tk (a_cons (e_bin o_sub e_int (e_var (pe_var (i := 13) rfl (Or.inl rfl)))) a_nil)) (e_bin o_add e_str (e_bin o_repS e_str e_int)) (nomark _)) (w_or1 (b_not (b_tru (e_call G_law_refused hr (by exact rfl) T.M_law_refused T.U_law_refused.kp T.B_law_refused tk (a_cons (e_var (pe_var (i := 13) rfl (Or.inl rfl))) a_nil))))))).pt (ss_one (s_ret e_bl)) ss_nil)
    (ss_one (s_ret (e_cmp (o_eq hr) (e_val (f_lc (own := [("term", 4)]) rfl sc_law.nd (i_list (e_val (f_lst (a_cons e_str (a_cons e_str (a_cons e_str (a_cons (e_tup (a_cons e_str (a_cons e_str a_nil)) (Nat.le_of_ble_eq_true rfl)) (a_cons (e_tup (a_cons (e_tup (a_cons e_str a_nil) (Nat.le_of_ble_eq_true rfl)) a_nil) (Nat.le_of_ble_eq_true rfl)) a_nil))))) (Nat.le_of_ble_eq_true rfl)))) (blkOk_by (N := n_law) (sc := defScope (top 31)) (own := [("term", 4)]) (by decide +kernel)) (fun _ _ _ _ _ => (g_nm (pg_name (i := 4) sc_law.nd rfl (Or.inl rfl)))) (fun _ _ _ _ _ => c_yes) (fun _ _ _ _ _ => (e_call G_law_refused hr (by exact rfl) T.M_law_refused T.U_law_refused.kp T.B_law_refused takes_W0 (a_cons (e_var (pe_var (i := 4) rfl (Or.inl rfl))) a_nil))))) (e_val (f_rep (e_val (f_lst (a_cons e_bl a_nil) (Nat.le_of_ble_eq_true rfl))) e_int)) (nomark _))))))))))))))))
end
end Rn
set_option Elab.async false
set_option linter.all false
set_option maxRecDepth 100000
set_option maxHeartbeats 8000000
namespace Rn
open PySem L2 PyProof.Rows

/-! ## texts by places -/
def cs (z : Str) : List Nat := z.cps.toList
def one (c : Nat) : Str := ⟨#[c]⟩
def emp : Str := ⟨#[]⟩
def sg (z : Str) (n : Nat) : Str := match (cs z)[n]? with
  | some c => one c
  | none => emp
def mid (z : Str) (a b : Nat) : Str := ⟨(((cs z).drop a).take (b - a)).toArray⟩
theorem cs_length (z : Str) : (cs z).length = z.length := Array.length_toList
theorem cut_mid (z : Str) (a b : Nat) (h : a ≤ z.length) (hb : b ≤ z.length) : cutS z (some (a : Int)) (some (b : Int)) = mid z a b := by
  unfold cutS mid
  rw [HT.sIx_nat, HT.sIx_nat, Nat.min_eq_left h, Nat.min_eq_left hb]
  rfl
theorem cut_one (z : Str) (n : Nat) : cutS z (some (n : Int)) (some ((n : Int) + 1)) = sg z n := by
  unfold cutS sg
  rw [show ((n : Int) + 1) = ((n + 1 : Nat) : Int) by omega, HT.sIx_nat, HT.sIx_nat]
  by_cases h : n < z.length
  · rw [Nat.min_eq_left (by omega), Nat.min_eq_left (by omega)]
    have h2 : n < (cs z).length := by rw [cs_length]; exact h
    have e : (cs z)[n]? = some (cs z)[n] := List.getElem?_eq_getElem h2
    rw [e, show n + 1 - n = 1 by omega]
    show (⟨((cs z).drop n |>.take 1).toArray⟩ : Str) = one (cs z)[n]
    rw [List.drop_eq_getElem_cons h2]
    rfl
  · have e : (cs z)[n]? = none := List.getElem?_eq_none (by rw [cs_length]; omega)
    rw [e, Nat.min_eq_right (by omega), Nat.min_eq_right (by omega), Nat.sub_self]
    rfl
theorem in_one (S : List Box) (neg : Bool) (j : Str) (c : Nat) : dInS neg (.v (.str (one c))) (.v (.str j)) S = some (.bl (neg != decide (c ∈ cs j))) := by
  have h := PySem.StrLaws.found_one j c
  unfold dInS one cs
  dsimp only
  rw [h]
def rfs (z : Str) (a : Nat) : List (Str × U) := [("text", .v (.str z)), ("at", .v (.int (a : Int)))]
def rb (z : Str) (a : Nat) : Box := .ins 3 (rfs z a)
section
variable {S : List Box} {k a : Nat} {z : Str} {ρ : Env}
theorem ins_rb (hk : k < S.length) : insOf 3 (.b k) (S.set k (rb z a)) = some (k, rfs z a) := by
  unfold insOf
  dsimp only
  rw [List.getElem?_set_self hk]
  rfl
theorem lk_text : (rfs z a).lookup ("text" : Str) = some (.v (.str z)) := rfl
theorem lk_at : (rfs z a).lookup ("at" : Str) = some (.v (.int (a : Int))) := rfl
theorem lk_ns : (rfs z a).lookup ("next_sign" : Str) = none := rfl
theorem lk_ia : (rfs z a).lookup ("is_at" : Str) = none := rfl
theorem lk_tk : (rfs z a).lookup ("take" : Str) = none := rfl
theorem lk_in : (rfs z a).lookup ("integer" : Str) = none := rfl
theorem lk_tm : (rfs z a).lookup ("term" : Str) = none := rfl
theorem lk_tr : (rfs z a).lookup ("told_rows" : Str) = none := rfl
theorem fld_text (hk : k < S.length) : fldR 3 "text" (.b k) (S.set k (rb z a)) = .ok (.v (.str z)) (S.set k (rb z a)) := by
  unfold fldR
  rw [ins_rb hk]
  dsimp only
  rw [lk_text]
theorem fld_at (hk : k < S.length) : fldR 3 "at" (.b k) (S.set k (rb z a)) = .ok (.v (.int (a : Int))) (S.set k (rb z a)) := by
  unfold fldR
  rw [ins_rb hk]
  dsimp only
  rw [lk_at]
theorem set_at (hk : k < S.length) (i : Int) (b : Nat) (h : i = (b : Int)) : setF 3 "at" (.b k) (.v (.int i)) ρ (S.set k (rb z a)) = .nx ρ (S.set k (rb z b)) := by
  unfold setF
  rw [ins_rb hk, h]
  dsimp only
  rw [if_pos ⟨(by decide : 2 < 1000), rfl⟩, List.set_set]
  rfl
end
/-- the meaning of a def -/
def Fns : CF := runF (n_Reading_next_sign : List Str).length c_Reading_next_sign
section
variable {S : List Box} {k a : Nat} {z : Str}
theorem ns_eq (hk : k < S.length) (hz : z.length ≤ sizeLine) : Fns [.b k] (S.set k (rb z a)) = .ok (.v (.str (sg z a))) (S.set k (rb z a)) := by
  simp [Fns, runF, c_Reading_next_sign, sRet, cSl, cFld, cVar, fld_at, fld_text, pSm, pIntR, cBin, dAdd, cK, opt, slS, Res.bind, Res.st, retR, notO, hk, hz, cut_one]
/-- «is_at» -/
def Fia : CF := runF (n_Reading_is_at : List Str).length (c_Reading_is_at Fns)
def isA (z : Str) (a : Nat) (j : Str) : Bool := match (cs z)[a]? with
  | some c => decide (c ∈ cs j)
  | none => false
theorem eq_str (S : List Box) (neg : Bool) (x y : Str) : dEq neg (.v (.str x)) (.v (.str y)) S = some (.bl (neg != (x == y))) := rfl
theorem one_beq (c : Nat) : (one c == emp) = false := by
  rw [beq_eq_false_iff_ne]
  intro h
  injection h with h
  have h2 := congrArg Array.size h
  cases h2
def okT (z : Str) : Prop := z.length ≤ 1000000 ∧ ∀ c ∈ cs z, c < 1114112
theorem okT.size (h : okT z) : z.length ≤ sizeLine := Nat.le_trans h.1 (by decide)
theorem strOk_of {x : Str} (h : ∀ c ∈ cs x, c < 1114112) : PyData.strOk x = true := by
  unfold PyData.strOk
  rw [Array.all_eq_true_iff_forall_mem]
  intro c hc
  exact decide_eq_true (h c (Array.mem_toList_iff.mpr hc))
theorem strOk_emp : PyData.strOk emp = true := strOk_of fun c hc => by
  have hc : c ∈ ([] : List Nat) := hc
  cases hc
theorem okT.one (h : okT z) {c : Nat} (e : (cs z)[a]? = some c) : PyData.strOk (one c) = true := strOk_of fun d hd => by
  have hd : d ∈ [c] := hd
  have hd := List.mem_singleton.mp hd
  rw [hd]
  exact h.2 c (List.mem_of_getElem? e)
theorem sg_some {c : Nat} (e : (cs z)[a]? = some c) : sg z a = one c := by unfold sg; rw [e]
theorem sg_none (e : (cs z)[a]? = none) : sg z a = emp := by unfold sg; rw [e]
theorem isA_some {c : Nat} {j : Str} (e : (cs z)[a]? = some c) : isA z a j = decide (c ∈ cs j) := by unfold isA; rw [e]
theorem isA_none {j : Str} (e : (cs z)[a]? = none) : isA z a j = false := by unfold isA; rw [e]
theorem ia_eq (hk : k < S.length) (hz : okT z) (j : Str) : Fia [.b k, .v (.str j)] (S.set k (rb z a)) = .ok (.v (.bl (isA z a j))) (S.set k (rb z a)) := by
  have hs := hz.size
  have e0 : (Str.ofString "" : Str) = emp := rfl
  have o0 : PyData.strOk emp = true := strOk_emp
  cases e : (cs z)[a]? with
  | none =>
    have h1 := sg_none e
    have h2 : (emp == emp) = true := by decide
    simp [Fia, runF, c_Reading_is_at, sRet, cAnd, cMeth, cVar, ins_rb, lk_ns, evL, callR, notO, ns_eq, cBin, cK, opt, Res.bind, Res.st, retR, bTruR, dTru, hk, hs, h1, e0, eq_str, o0, h2, isA_none e]
  | some c =>
    have h1 := sg_some e
    have h2 := hz.one e
    simp [Fia, runF, c_Reading_is_at, sRet, cAnd, cMeth, cVar, ins_rb, lk_ns, evL, callR, notO, ns_eq, cBin, cK, opt, Res.bind, Res.st, retR, bTruR, dTru, hk, hs, h1, e0, eq_str, o0, h2, isA_some e, one_beq, in_one]
end
end Rn
set_option Elab.async false
set_option linter.all false
set_option maxRecDepth 100000
set_option maxHeartbeats 8000000
namespace Rn
open PySem L2 PyProof.Rows

inductive Out where
  | ok (d : D) (e : Nat) | bad (e : Nat)
def endW (z : Str) (a : Nat) (j : Str) : Nat := a + (((cs z).drop a).takeWhile fun c => decide (c ∈ cs j)).length
section
variable {S : List Box} {k a : Nat} {z j : Str}
theorem endW_no (h : isA z a j = false) : endW z a j = a := by
  unfold endW
  cases e : (cs z)[a]? with
  | none =>
    rw [List.drop_eq_nil_of_le (List.getElem?_eq_none_iff.mp e)]
    rfl
  | some c =>
    rw [isA_some e] at h
    obtain ⟨h1, h2⟩ := List.getElem?_eq_some_iff.mp e
    rw [List.drop_eq_getElem_cons h1, h2, List.takeWhile_cons, h]
    rfl
theorem endW_yes (h : isA z a j = true) : endW z a j = endW z (a + 1) j := by
  unfold endW
  cases e : (cs z)[a]? with
  | none => rw [isA_none e] at h; cases h
  | some c =>
    rw [isA_some e] at h
    obtain ⟨h1, h2⟩ := List.getElem?_eq_some_iff.mp e
    rw [List.drop_eq_getElem_cons h1, h2, List.takeWhile_cons, h, if_pos rfl, List.length_cons]
    omega
theorem isA_lt (h : isA z a j = true) : a < z.length := by
  rw [← cs_length]
  cases e : (cs z)[a]? with
  | none => rw [isA_none e] at h; cases h
  | some c => exact (List.getElem?_eq_some_iff.mp e).1
theorem endW_ge : a ≤ endW z a j := Nat.le_add_right _ _
theorem endW_le (h : a ≤ z.length) : endW z a j ≤ z.length := by
  have h1 : (((cs z).drop a).takeWhile fun c => decide (c ∈ cs j)).length ≤ ((cs z).drop a).length := (List.takeWhile_prefix _).length_le
  rw [List.length_drop, cs_length] at h1
  unfold endW
  omega
theorem set_at1 {ρ : Env} (hk : k < S.length) : setF 3 "at" (.b k) (.v (.int ((a : Int) + 1))) ρ (S.set k (rb z a)) = .nx ρ (S.set k (rb z (a + 1))) := set_at hk _ _ (by omega)
def Ftk : CF := runF (n_Reading_take : List Str).length (c_Reading_take Fia)
theorem tk_loop (hk : k < S.length) (hz : okT z) (s : U) : ∀ n a, a ≤ z.length → z.length < a + n →
    whF (bTru (cMeth 3 "is_at" Fia (cVar 0) [(cVar 1)])) (sFldI 3 "at" (cVar 0) (cK (.int 1))) n [some (.b k), some (.v (.str j)), some s] (S.set k (rb z a)) = .nx [some (.b k), some (.v (.str j)), some s] (S.set k (rb z (endW z a j)))
  | 0, a, ha, h => by omega
  | n + 1, a, ha, h => by
    unfold whF
    cases hi : isA z a j with
    | false =>
      rw [endW_no hi]
      simp [bTru, cMeth, cVar, ins_rb, lk_ia, evL, callR, notO, ia_eq, Res.bind, Res.st, bTruR, dTru, hk, hz, hi]
    | true =>
      have lt := isA_lt hi
      have ih := tk_loop hk hz s n (a + 1) (by omega) (by omega)
      rw [endW_yes hi]
      simp [bTru, cMeth, cVar, ins_rb, lk_ia, evL, callR, notO, ia_eq, Res.bind, Res.st, bTruR, dTru, hk, hz, hi, sFldI, fld_at, cK, addF, set_at1, ih]
theorem tk_eq (hk : k < S.length) (hz : okT z) (ha : a ≤ z.length) : Ftk [.b k, .v (.str j)] (S.set k (rb z a)) = .ok (.v (.str (mid z a (endW z a j)))) (S.set k (rb z (endW z a j))) := by
  have hs := hz.size
  have l := tk_loop (j := j) hk hz (.v (.int (a : Int))) 20000000 a ha (by have := hz.1; omega)
  have hb := endW_le (j := j) ha
  simp [Ftk, runF, c_Reading_take, sSeq, sSet, setU, sRet, cSl, cFld, cVar, fld_at, fld_text, pSm, pIntR, opt, slS, Res.bind, Res.st, retR, notO, hk, hs, l, cut_mid, ha, hb]
/-! ## a whole number -/
def dig : Str := "0123456789"
def ival (z : Str) (a b : Nat) : Int := (intText? (mid z a b)).getD 0
def rdInt1 (z : Str) (m : Bool) (a1 : Nat) : Out :=
  if (!isA z a1 dig || (m && isA z a1 "0")) = true then .bad a1
  else if (isA z a1 "0" && decide (1 < endW z a1 dig - a1)) = true then .bad (a1 + 1)
  else if 20 < endW z a1 dig - a1 then .bad (a1 + 20)
  else .ok (.int (if m = true then -ival z a1 (endW z a1 dig) else ival z a1 (endW z a1 dig))) (endW z a1 dig)
def rdInt (z : Str) (a : Nat) : Out := if isA z a "-" = true then rdInt1 z true (a + 1) else rdInt1 z false a
def outR (k : Nat) (S : List Box) (z : Str) (a' : Nat) : Out → Res U
  | .ok d e => .ok (.v d) (S.set k (rb z e))
  | .bad e => .ex ⟨2, [("at", .int (e : Int))]⟩ (S.set k (rb z a'))
theorem mid_len (h : j = j) {b : Nat} (hb : b ≤ z.length) : (mid z a b).length = b - a := by
  show (((cs z).drop a).take (b - a)).toArray.size = b - a
  rw [List.size_toArray, List.length_take, List.length_drop, cs_length]
  omega
def Fint : CF := runF (n_Reading_integer : List Str).length (c_Reading_integer Fia Ftk)
theorem mid_cs {b : Nat} : cs (mid z a b) = ((cs z).drop a).take (b - a) := rfl
theorem mid_run : cs (mid z a (endW z a j)) = ((cs z).drop a).takeWhile fun c => decide (c ∈ cs j) := by
  rw [mid_cs]
  unfold endW
  rw [Nat.add_sub_cancel_left]
  exact (List.prefix_iff_eq_take.mp (List.takeWhile_prefix _)).symm
theorem dig_all : NumText.AllDigits (cs (mid z a (endW z a dig))) := fun c hc => by
  rw [mid_run] at hc
  have h := List.all_eq_true.mp List.all_takeWhile c hc
  have h2 : c ∈ cs dig := of_decide_eq_true h
  have h3 : c ∈ [48, 49, 50, 51, 52, 53, 54, 55, 56, 57] := h2
  simp at h3
  omega
theorem ival_some (h : isA z a dig = true) (h20 : ¬ 20 < endW z a dig - a) (ha : a ≤ z.length) : intText? (mid z a (endW z a dig)) = some (ival z a (endW z a dig)) := by
  have hl := mid_len (z := z) (j := dig) (a := a) rfl (endW_le (j := dig) ha)
  have hne : cs (mid z a (endW z a dig)) ≠ [] := fun q => by
    have h1 := endW_yes h
    have h2 := endW_ge (z := z) (a := a + 1) (j := dig)
    have h3 : (cs (mid z a (endW z a dig))).length = 0 := by rw [q]; rfl
    rw [cs_length, hl] at h3
    omega
  have h5 := intText_digits (x := mid z a (endW z a dig)) dig_all hne (by rw [hl]; omega)
  unfold ival
  rw [h5]
  rfl
def c_int2 : CS :=
  (sSeq (sSet 2 (cFld 3 "at" (cVar 0)))
    (sSeq (sIf (bOr (bNot (bTru (cMeth 3 "is_at" Fia (cVar 0) [(cK (.str "0123456789"))]))) (bAnd (bTru (cVar 1)) (bTru (cMeth 3 "is_at" Fia (cVar 0) [(cK (.str "0"))])))) (sRaiseA 2 "at" (cFld 3 "at" (cVar 0))) sNext)
    (sSeq (sSet 3 (cMeth 3 "is_at" Fia (cVar 0) [(cK (.str "0"))]))
    (sSeq (sSet 4 (cMeth 3 "take" Ftk (cVar 0) [(cK (.str "0123456789"))]))
    (sSeq (sIf (bAnd (bTru (cVar 3)) (bOf (cBin (dCmpI fun i j => decide (j < i)) (cFun fLen [(cVar 4)]) (cK (.int 1))))) (sRaiseA 2 "at" (cBin dAdd (cVar 2) (cK (.int 1)))) sNext)
    (sSeq (sIf (bOf (cBin (dCmpI fun i j => decide (j < i)) (cFun fLen [(cVar 4)]) (cK (.int 20)))) (sRaiseA 2 "at" (cBin dAdd (cVar 2) (cK (.int 20)))) sNext)
    (sRet (cIf (bTru (cVar 1)) (cUn dNeg (cFun fInt [(cVar 4)])) (cFun fInt [(cVar 4)])))))))))
theorem int_split : c_Reading_integer Fia Ftk = sSeq (sSet 1 (cMeth 3 "is_at" Fia (cVar 0) [(cK (.str "-"))])) (sSeq (sIf (bTru (cVar 1)) (sFldI 3 "at" (cVar 0) (cK (.int 1))) sNext) c_int2) := rfl
def fin : Rs → Res U
  | .rt d S => .ok d S
  | .nx _ S => .ok (.v .non) S
  | .ex x _ S => .ex x S
  | _ => .no
theorem int2_eq (hk : k < S.length) (hz : okT z) (ha : a ≤ z.length) (m : Bool) : ∃ a', fin (c_int2 [some (.b k), some (.v (.bl m)), none, none, none] (S.set k (rb z a))) = outR k S z a' (rdInt1 z m a) := by
  have hs := hz.size
  have e1 : (Str.ofString "0123456789" : Str) = dig := rfl
  have he := endW_le (j := dig) ha
  have hl := mid_len (z := z) (j := dig) (a := a) rfl he
  have hml : (mid z a (endW z a dig)).length ≤ sizeLine := by rw [hl]; omega
  unfold rdInt1
  cases h1 : isA z a dig with
  | false =>
    refine ⟨a, ?_⟩
    simp [c_int2, fin, sSeq, sSet, setU, cMeth, cVar, ins_rb, lk_ia, evL, callR, notO, ia_eq, Res.bind, Res.st, bTru, bTruR, dTru, hk, hz, sIf, cK, sNext, cFld, fld_at, bOr, bNot, bAnd, e1, h1, sRaiseA, exR, outR]
  | true =>
    cases h0 : m && isA z a "0" with
    | true =>
      refine ⟨a, ?_⟩
      obtain ⟨hm1, h00⟩ := Bool.and_eq_true_iff.mp h0
      subst hm1
      simp [c_int2, fin, sSeq, sSet, setU, cMeth, cVar, ins_rb, lk_ia, evL, callR, notO, ia_eq, Res.bind, Res.st, bTru, bTruR, dTru, hk, hz, sIf, cK, sNext, cFld, fld_at, bOr, bNot, bAnd, e1, h1, h00, sRaiseA, exR, outR]
    | false =>
      refine ⟨endW z a dig, ?_⟩
      have pre : c_int2 [some (.b k), some (.v (.bl m)), none, none, none] (S.set k (rb z a)) =
        sSeq (sIf (bAnd (bTru (cVar 3)) (bOf (cBin (dCmpI fun i j => decide (j < i)) (cFun fLen [(cVar 4)]) (cK (.int 1))))) (sRaiseA 2 "at" (cBin dAdd (cVar 2) (cK (.int 1)))) sNext)
          (sSeq (sIf (bOf (cBin (dCmpI fun i j => decide (j < i)) (cFun fLen [(cVar 4)]) (cK (.int 20)))) (sRaiseA 2 "at" (cBin dAdd (cVar 2) (cK (.int 20)))) sNext)
          (sRet (cIf (bTru (cVar 1)) (cUn dNeg (cFun fInt [(cVar 4)])) (cFun fInt [(cVar 4)])))) [some (.b k), some (.v (.bl m)), some (.v (.int (a : Int))), some (.v (.bl (isA z a "0"))), some (.v (.str (mid z a (endW z a dig))))] (S.set k (rb z (endW z a dig))) := by
        cases m with
        | true =>
          have h0 : isA z a "0" = false := h0
          simp [c_int2, sSeq, sSet, setU, cMeth, cVar, ins_rb, lk_ia, lk_tk, evL, callR, notO, ia_eq, tk_eq, Res.bind, Res.st, bTru, bTruR, dTru, hk, hz, ha, sIf, cK, sNext, cFld, fld_at, bOr, bNot, bAnd, e1, h1, h0]
        | false => simp [c_int2, sSeq, sSet, setU, cMeth, cVar, ins_rb, lk_ia, lk_tk, evL, callR, notO, ia_eq, tk_eq, Res.bind, Res.st, bTru, bTruR, dTru, hk, hz, ha, sIf, cK, sNext, cFld, fld_at, bOr, bNot, bAnd, e1, h1]
      rw [pre]
      have hv := ival_some h1
      generalize hL : endW z a dig - a = L at hl hv ⊢
      generalize hM : mid z a (endW z a dig) = M at hl hml hv ⊢
      generalize endW z a dig = e at hv ⊢
      generalize isA z a "0" = b0 at h0 ⊢
      have hLs : L ≤ sizeLine := by rw [← hl]; exact hml
      have c1 : decide ((1 : Int) < (L : Int)) = decide (1 < L) := by congr 1; exact propext (by omega)
      have c2 : decide ((20 : Int) < (L : Int)) = decide (20 < L) := by congr 1; exact propext (by omega)
      by_cases d1 : (b0 && decide (1 < L)) = true
      · obtain ⟨x1, x2⟩ := Bool.and_eq_true_iff.mp d1
        subst x1
        have x2 := of_decide_eq_true x2
        simp [fin, sSeq, sIf, bAnd, bTru, bTruR, dTru, cVar, bOf, bRes, cBin, dCmpI, cFun, fLen, evL, cK, opt, Res.bind, Res.st, hl, hLs, c1, x2, sRaiseA, exR, dAdd, outR, h1, h0]
      · have d1 : (b0 && decide (1 < L)) = false := Bool.eq_false_iff.mpr d1
        by_cases d2 : 20 < L
        · cases b0 with
          | false => simp [fin, sSeq, sIf, bAnd, bTru, bTruR, dTru, cVar, bOf, bRes, cBin, dCmpI, cFun, fLen, evL, cK, opt, Res.bind, Res.st, hl, hLs, c2, d2, sRaiseA, exR, dAdd, outR, h1, h0, sNext]
          | true =>
            have d1 : decide (1 < L) = false := d1
            simp [fin, sSeq, sIf, bAnd, bTru, bTruR, dTru, cVar, bOf, bRes, cBin, dCmpI, cFun, fLen, evL, cK, opt, Res.bind, Res.st, hl, hLs, c1, c2, d1, d2, sRaiseA, exR, dAdd, outR, h1, h0, sNext]
        · have hv := hv d2 ha
          have hL640 : L ≤ 640 := by omega
          cases b0 with
          | false => cases m <;> simp [fin, sSeq, sIf, bAnd, bTru, bTruR, dTru, cVar, bOf, bRes, cBin, dCmpI, cFun, fLen, fInt, dNeg, cUn, cIf, sRet, retR, notO, evL, cK, opt, Res.bind, Res.st, hl, hLs, c1, c2, d2, hv, hL640, sRaiseA, exR, dAdd, outR, h1, sNext]
          | true =>
            have d1' : ¬ 1 < L := fun q => by
              have d1 : decide (1 < L) = false := d1
              rw [decide_eq_true q] at d1
              cases d1
            cases m with
            | true => cases h0
            | false => simp [fin, sSeq, sIf, bAnd, bTru, bTruR, dTru, cVar, bOf, bRes, cBin, dCmpI, cFun, fLen, fInt, dNeg, cUn, cIf, sRet, retR, notO, evL, cK, opt, Res.bind, Res.st, hl, hLs, c1, c2, d2, hv, hL640, sRaiseA, exR, dAdd, outR, h1, sNext, d1']
theorem int_eq (hk : k < S.length) (hz : okT z) (ha : a ≤ z.length) : ∃ a', Fint [.b k] (S.set k (rb z a)) = outR k S z a' (rdInt z a) := by
  cases hm : isA z a "-" with
  | true =>
    have lt := isA_lt hm
    obtain ⟨a', h⟩ := int2_eq (a := a + 1) hk hz (by omega) true
    refine ⟨a', ?_⟩
    have r : rdInt z a = rdInt1 z true (a + 1) := by unfold rdInt; rw [hm]; rfl
    rw [r, ← h]
    have e : c_Reading_integer Fia Ftk [some (.b k), none, none, none, none] (S.set k (rb z a)) = c_int2 [some (.b k), some (.v (.bl true)), none, none, none] (S.set k (rb z (a + 1))) := by
      rw [int_split]
      simp [sSeq, sSet, setU, cMeth, cVar, ins_rb, lk_ia, evL, callR, notO, ia_eq, Res.bind, Res.st, bTru, bTruR, dTru, hk, hz, sIf, cK, sFldI, fld_at, addF, set_at1, hm]
    show (match c_Reading_integer Fia Ftk [some (.b k), none, none, none, none] (S.set k (rb z a)) with | .rt d S' => Res.ok d S' | .nx _ S' => .ok (.v .non) S' | .ex x _ S' => .ex x S' | _ => .no) = _
    rw [e]
    rfl
  | false =>
    obtain ⟨a', h⟩ := int2_eq (a := a) hk hz ha false
    refine ⟨a', ?_⟩
    have r : rdInt z a = rdInt1 z false a := by unfold rdInt; rw [hm]; rfl
    rw [r, ← h]
    have e : c_Reading_integer Fia Ftk [some (.b k), none, none, none, none] (S.set k (rb z a)) = c_int2 [some (.b k), some (.v (.bl false)), none, none, none] (S.set k (rb z a)) := by
      rw [int_split]
      simp [sSeq, sSet, setU, cMeth, cVar, ins_rb, lk_ia, evL, callR, notO, ia_eq, Res.bind, Res.st, bTru, bTruR, dTru, hk, hz, sIf, cK, sNext, hm]
    show (match c_Reading_integer Fia Ftk [some (.b k), none, none, none, none] (S.set k (rb z a)) with | .rt d S' => Res.ok d S' | .nx _ S' => .ok (.v .non) S' | .ex x _ S' => .ex x S' | _ => .no) = _
    rw [e]
    rfl
end
end Rn
set_option Elab.async false
set_option linter.all false
set_option maxRecDepth 100000
set_option maxHeartbeats 8000000
namespace Rn
open PySem L2 PyProof.Rows

def sml : Str := "abcdefghijklmnopqrstuvwxyz"
/-- the rest of a row: the sign at a is looked at -/
def rdL (z : Str) (f : Nat → Out) : Nat → Nat → List D → Out
  | 0, a, _ => .bad a
  | m + 1, a, found =>
    if isA z a ")" = true then .ok (.tup found) (a + 1)
    else if (!found.isEmpty && !isA z a " ") = true then .bad a
    else match f (if found.isEmpty = true then a else a + 1) with
      | .ok d e => rdL z f m e (found ++ [d])
      | .bad e => .bad e
def rdT (z : Str) : Nat → Nat → Out
  | 0, a => if isA z a "(" = true then .bad a
    else if isA z a "." = true then .ok (.str emp) (a + 1)
    else if isA z a sml = true then .ok (if (mid z a (endW z a sml) == "none") = true then .non else .str (mid z a (endW z a sml))) (endW z a sml)
    else rdInt z a
  | r + 1, a => if isA z a "(" = true then rdL z (rdT z r) (z.length + 1) (a + 1) []
    else if isA z a "." = true then .ok (.str emp) (a + 1)
    else if isA z a sml = true then .ok (if (mid z a (endW z a sml) == "none") = true then .non else .str (mid z a (endW z a sml))) (endW z a sml)
    else rdInt z a
/-- it goes on, and stays within -/
def Fwd (z : Str) (f : Nat → Out) : Prop := ∀ a d e, f a = .ok d e → a < e ∧ e ≤ z.length
section
variable {S : List Box} {k a : Nat} {z : Str}
theorem int1_fwd {m : Bool} {b : Nat} {d : D} {e : Nat} (h : rdInt1 z m b = .ok d e) : b < e ∧ e ≤ z.length := by
  unfold rdInt1 at h
  split at h
  · cases h
  · rename_i h1
    have h1 : isA z b dig = true := by
      cases q : isA z b dig with
      | true => rfl
      | false => rw [q] at h1; exact absurd rfl h1
    split at h
    · cases h
    · split at h
      · cases h
      · injection h with h2 h3
        have h4 := endW_yes h1
        have h5 := endW_ge (z := z) (a := b + 1) (j := dig)
        have h6 := endW_le (z := z) (j := dig) (Nat.le_of_lt (isA_lt h1))
        omega
theorem int_fwd {d : D} {e : Nat} (h : rdInt z a = .ok d e) : a < e ∧ e ≤ z.length := by
  unfold rdInt at h
  split at h
  · have := int1_fwd h; omega
  · exact int1_fwd h
theorem rdL_fwd {f : Nat → Out} (F : Fwd z f) : ∀ m a found d e, rdL z f m a found = .ok d e → a < e ∧ e ≤ z.length
  | 0, a, found, d, e, h => by cases h
  | m + 1, a, found, d, e, h => by
    unfold rdL at h
    split at h
    · rename_i h1
      have := isA_lt h1
      injection h with h2 h3
      omega
    · split at h
      · cases h
      · split at h
        · rename_i d1 e1 h1
          have h2 := F _ _ _ h1
          have h3 := rdL_fwd F m e1 _ d e h
          split at h2 <;> omega
        · cases h
theorem word_fwd (h : isA z a sml = true) : a < endW z a sml ∧ endW z a sml ≤ z.length := by
  have h4 := endW_yes h
  have h5 := endW_ge (z := z) (a := a + 1) (j := sml)
  exact ⟨by omega, endW_le (Nat.le_of_lt (isA_lt h))⟩
theorem rdT_fwd : ∀ r, Fwd z (rdT z r)
  | 0 => fun a d e h => by
    unfold rdT at h
    split at h
    · cases h
    · split at h
      · rename_i h1
        have := isA_lt h1
        injection h with h2 h3
        omega
      · split at h
        · rename_i h1
          injection h with h2 h3
          rw [← h3]
          exact word_fwd h1
        · exact int_fwd h
  | r + 1 => fun a d e h => by
    unfold rdT at h
    split at h
    · have := rdL_fwd (rdT_fwd r) _ _ _ _ _ h
      omega
    · split at h
      · rename_i h1
        have := isA_lt h1
        injection h with h2 h3
        omega
      · split at h
        · rename_i h1
          injection h with h2 h3
          rw [← h3]
          exact word_fwd h1
        · exact int_fwd h
/-- enough turns -/
theorem rdL_more {f : Nat → Out} (F : Fwd z f) : ∀ m m' a found, z.length < a + m → z.length < a + m' → a ≤ z.length → rdL z f m a found = rdL z f m' a found
  | 0, m', a, found, h1, h2, h3 => by omega
  | m + 1, 0, a, found, h1, h2, h3 => by omega
  | m + 1, m' + 1, a, found, h1, h2, h3 => by
    unfold rdL
    split
    · rfl
    · split
      · rfl
      · split
        · rename_i d e he
          have h4 := F _ _ _ he
          refine rdL_more F m m' e _ ?_ ?_ h4.2 <;> (split at h4 <;> omega)
        · rfl
end
/-! ## the program's two defs -/
mutual
def FT : Nat → CF
  | 0 => fun _ _ => .no
  | n + 1 => runF (n_Reading_term : List Str).length (c_Reading_term Fia (FR n) Ftk Fint)
def FR : Nat → CF
  | 0 => fun _ _ => .no
  | n + 1 => runF (n_Reading_told_rows : List Str).length (c_Reading_told_rows Fia (FT n))
end
section
variable {S : List Box} {k a : Nat} {z : Str}
/-- what is told of a reader one level down -/
def Rd (z : Str) (F : CF) (dp : Nat) (f : Nat → Out) : Prop := ∀ (S : List Box) (k a : Nat), k < S.length → a ≤ z.length → ∃ a', F [.b k, .v (.int (dp : Int))] (S.set k (rb z a)) = outR k S z a' (f a)
def thn2 (r : Rs) (c : CS) : Rs := match r with
  | .nx ρ S => c ρ S
  | r => r
theorem rows_loop (hz : okT z) {F : CF} {dp : Nat} {f : Nat → Out} (R : Rd z F dp f) (Fw : Fwd z f) (hk : k < S.length) : ∀ n a found, a ≤ z.length → z.length < a + n → found.length + z.length ≤ a + 1000000 →
    ∃ a', fin (thn2 (whF (bNot (bTru (cMeth 3 "is_at" Fia (cVar 0) [(cK (.str ")"))]))) (sSeq (sIf (bTru (cVar 2)) (sSeq (sIf (bNot (bTru (cMeth 3 "is_at" Fia (cVar 0) [(cK (.str " "))]))) (sRaiseA 2 "at" (cFld 3 "at" (cVar 0))) sNext)
      (sFldI 3 "at" (cVar 0) (cK (.int 1)))) sNext) (sMut 2 mApp [(cMeth 3 "term" F (cVar 0) [(cVar 1)])] fun _ ρ S => .nx ρ S)) n [some (.b k), some (.v (.int (dp : Int))), some (.o found)] (S.set k (rb z a)))
      (sSeq (sFldI 3 "at" (cVar 0) (cK (.int 1))) (sRet (cFun fTup [(cVar 2)])))) = outR k S z a' (rdL z f n a found)
  | 0, a, found, h1, h2, h3 => by omega
  | n + 1, a, found, h1, h2, h3 => by
    unfold whF rdL
    cases hp : isA z a ")" with
    | true =>
      refine ⟨a, ?_⟩
      simp [thn2, bTru, bNot, cMeth, cVar, cK, ins_rb, lk_ia, lk_tm, evL, callR, notO, ia_eq, Res.bind, Res.st, bTruR, dTru, hk, hz, sSeq, sIf, sNext, cFld, sFldI, fld_at, addF, set_at1, sRet, cFun, fTup, asL, asQ, opt, retR, fin, outR, sRaiseA, exR, sMut, mutR, mApp, hp]
    | false =>
      have go : ∀ b, b ≤ z.length → a ≤ b → ∃ a', (sMut 2 mApp [(cMeth 3 "term" F (cVar 0) [(cVar 1)])] fun _ ρ S => .nx ρ S) [some (.b k), some (.v (.int (dp : Int))), some (.o found)] (S.set k (rb z b)) =
          (match f b with
          | .ok d e => .nx [some (.b k), some (.v (.int (dp : Int))), some (.o (found ++ [d]))] (S.set k (rb z e))
          | .bad e => .ex ⟨2, [("at", .int (e : Int))]⟩ [some (.b k), some (.v (.int (dp : Int))), some (.o found)] (S.set k (rb z a'))) := fun b hb hab => by
        obtain ⟨a', hR⟩ := R S k b hk hb
        refine ⟨a', ?_⟩
        have hfl : found.length < sizeLine := by
          have := hz.1
          have h16 : sizeLine = 16777216 := sizeLine_eq
          omega
        cases hf : f b with
        | ok d e =>
          rw [hf] at hR
          simp [sMut, mutR, mApp, cMeth, cVar, ins_rb, lk_tm, evL, callR, notO, hk, hR, outR, Res.bind, Res.st, hfl]
        | bad e =>
          rw [hf] at hR
          simp [sMut, mutR, mApp, cMeth, cVar, ins_rb, lk_tm, evL, callR, notO, hk, hR, outR, Res.bind, Res.st, hfl]
      -- the test, and the sign between
      have tst : (bNot (bTru (cMeth 3 "is_at" Fia (cVar 0) [(cK (.str ")"))]))) [some (.b k), some (.v (.int (dp : Int))), some (.o found)] (S.set k (rb z a)) = .ok true (S.set k (rb z a)) := by
        simp [bTru, bNot, cMeth, cVar, cK, ins_rb, lk_ia, lk_tm, evL, callR, notO, ia_eq, Res.bind, Res.st, bTruR, dTru, hk, hz, sSeq, sIf, sNext, cFld, sFldI, fld_at, addF, set_at1, sRet, cFun, fTup, asL, asQ, opt, retR, fin, outR, sRaiseA, exR, hp]
      have pre : (sIf (bTru (cVar 2)) (sSeq (sIf (bNot (bTru (cMeth 3 "is_at" Fia (cVar 0) [(cK (.str " "))]))) (sRaiseA 2 "at" (cFld 3 "at" (cVar 0))) sNext) (sFldI 3 "at" (cVar 0) (cK (.int 1)))) sNext) [some (.b k), some (.v (.int (dp : Int))), some (.o found)] (S.set k (rb z a)) =
          if (!found.isEmpty && !isA z a " ") = true then .ex ⟨2, [("at", .int (a : Int))]⟩ [some (.b k), some (.v (.int (dp : Int))), some (.o found)] (S.set k (rb z a)) else .nx [some (.b k), some (.v (.int (dp : Int))), some (.o found)] (S.set k (rb z (if found.isEmpty = true then a else a + 1))) := by
        cases hfo : found.isEmpty with
        | true => simp [bTru, bNot, cMeth, cVar, cK, ins_rb, lk_ia, lk_tm, evL, callR, notO, ia_eq, Res.bind, Res.st, bTruR, dTru, hk, hz, sSeq, sIf, sNext, cFld, sFldI, fld_at, addF, set_at1, sRet, cFun, fTup, asL, asQ, opt, retR, fin, outR, sRaiseA, exR, hfo]
        | false =>
          cases hsp : isA z a " " with
          | true => simp [bTru, bNot, cMeth, cVar, cK, ins_rb, lk_ia, lk_tm, evL, callR, notO, ia_eq, Res.bind, Res.st, bTruR, dTru, hk, hz, sSeq, sIf, sNext, cFld, sFldI, fld_at, addF, set_at1, sRet, cFun, fTup, asL, asQ, opt, retR, fin, outR, sRaiseA, exR, hfo, hsp]
          | false => simp [bTru, bNot, cMeth, cVar, cK, ins_rb, lk_ia, lk_tm, evL, callR, notO, ia_eq, Res.bind, Res.st, bTruR, dTru, hk, hz, sSeq, sIf, sNext, cFld, sFldI, fld_at, addF, set_at1, sRet, cFun, fTup, asL, asQ, opt, retR, fin, outR, sRaiseA, exR, hfo, hsp]
      have ih := fun e d (he : a < e ∧ e ≤ z.length) => rows_loop hz R Fw hk n e (found ++ [d]) he.2 (by omega) (by rw [List.length_append, List.length_singleton]; omega)
      generalize (sIf (bTru (cVar 2)) (sSeq (sIf (bNot (bTru (cMeth 3 "is_at" Fia (cVar 0) [(cK (.str " "))]))) (sRaiseA 2 "at" (cFld 3 "at" (cVar 0))) sNext) (sFldI 3 "at" (cVar 0) (cK (.int 1)))) sNext) = cA at pre ih ⊢
      generalize (sMut 2 mApp [(cMeth 3 "term" F (cVar 0) [(cVar 1)])] fun _ ρ S => .nx ρ S) = cM at go ih ⊢
      generalize (bNot (bTru (cMeth 3 "is_at" Fia (cVar 0) [(cK (.str ")"))]))) = cT at tst ih ⊢
      rw [tst]
      dsimp only [Res.st]
      rw [if_pos rfl, if_neg Bool.false_ne_true]
      rw [show sSeq cA cM [some (.b k), some (.v (.int (dp : Int))), some (.o found)] (S.set k (rb z a)) = (match cA [some (.b k), some (.v (.int (dp : Int))), some (.o found)] (S.set k (rb z a)) with | .nx ρ' S' => cM ρ' S' | r => r) from rfl]
      rw [pre]
      by_cases hb : (!found.isEmpty && !isA z a " ") = true
      · rw [if_pos hb, if_pos hb]
        exact ⟨a, rfl⟩
      · rw [if_neg hb, if_neg hb]
        dsimp only
        generalize hbb : (if found.isEmpty = true then a else a + 1) = b
        have hble : a ≤ b ∧ b ≤ z.length := by
          rw [← hbb]
          split
          · omega
          · rename_i hne
            have hsp : isA z a " " = true := by
              cases q : isA z a " " with
              | true => rfl
              | false =>
                rw [q] at hb
                cases q2 : found.isEmpty with
                | true => exact absurd q2 hne
                | false => rw [q2] at hb; exact absurd rfl hb
            have := isA_lt hsp
            omega
        obtain ⟨a', hg⟩ := go b hble.2 hble.1
        rw [hg]
        cases hf : f b with
        | ok d e =>
          have hfw := Fw _ _ _ hf
          exact ih e d (by omega)
        | bad e => exact ⟨a', rfl⟩
end
end Rn
set_option Elab.async false
set_option linter.all false
set_option maxRecDepth 100000
set_option maxHeartbeats 8000000
namespace Rn
open PySem L2 PyProof.Rows
theorem eq_int (S : List Box) (neg : Bool) (i j : Int) : dEq neg (.v (.int i)) (.v (.int j)) S = some (.bl (neg != (i == j))) := by
  unfold dEq
  show (if SeqAt.shaped (.int i) = true ∧ SeqAt.shaped (.int j) = true then _ else _) = _
  rw [if_pos ⟨rfl, rfl⟩]
  rfl
section
variable {S : List Box} {k a : Nat} {z : Str}
theorem mid_ok (hz : okT z) (a b : Nat) : PyData.strOk (mid z a b) = true := strOk_of fun c hc => by
  rw [mid_cs] at hc
  exact hz.2 c (List.mem_of_mem_drop (List.mem_of_mem_take hc))
theorem FR_eq (hz : okT z) {n dp : Nat} {f : Nat → Out} (R : Rd z (FT n) dp f) (Fw : Fwd z f) (hk : k < S.length) (ha : a < z.length) : ∃ a', FR (n + 1) [.b k, .v (.int (dp : Int))] (S.set k (rb z a)) = outR k S z a' (rdL z f (z.length + 1) (a + 1) []) := by
  have h1 := hz.1
  obtain ⟨a', h⟩ := rows_loop hz R Fw hk 20000000 (a + 1) [] (by omega) (by omega) (by simp; omega)
  rw [rdL_more Fw 20000000 (z.length + 1) (a + 1) [] (by omega) (by omega) (by omega)] at h
  refine ⟨a', ?_⟩
  rw [← h]
  have e : c_Reading_told_rows Fia (FT n) [some (.b k), some (.v (.int (dp : Int))), none] (S.set k (rb z a)) =
      thn2 (whF (bNot (bTru (cMeth 3 "is_at" Fia (cVar 0) [(cK (.str ")"))]))) (sSeq (sIf (bTru (cVar 2)) (sSeq (sIf (bNot (bTru (cMeth 3 "is_at" Fia (cVar 0) [(cK (.str " "))]))) (sRaiseA 2 "at" (cFld 3 "at" (cVar 0))) sNext)
      (sFldI 3 "at" (cVar 0) (cK (.int 1)))) sNext) (sMut 2 mApp [(cMeth 3 "term" (FT n) (cVar 0) [(cVar 1)])] fun _ ρ S => .nx ρ S)) 20000000 [some (.b k), some (.v (.int (dp : Int))), some (.o [])] (S.set k (rb z (a + 1))))
      (sSeq (sFldI 3 "at" (cVar 0) (cK (.int 1))) (sRet (cFun fTup [(cVar 2)]))) := by
    have s1 : (sFldI 3 "at" (cVar 0) (cK (.int 1))) [some (.b k), some (.v (.int (dp : Int))), none] (S.set k (rb z a)) = .nx [some (.b k), some (.v (.int (dp : Int))), none] (S.set k (rb z (a + 1))) := by
      simp [sFldI, cVar, cK, fld_at, hk, addF, set_at1, Res.bind, Res.st]
    unfold c_Reading_told_rows
    generalize (sSeq (sIf (bTru (cVar 2)) (sSeq (sIf (bNot (bTru (cMeth 3 "is_at" Fia (cVar 0) [(cK (.str " "))]))) (sRaiseA 2 "at" (cFld 3 "at" (cVar 0))) sNext) (sFldI 3 "at" (cVar 0) (cK (.int 1)))) sNext) (sMut 2 mApp [(cMeth 3 "term" (FT n) (cVar 0) [(cVar 1)])] fun _ ρ S => .nx ρ S)) = cB
    generalize (bNot (bTru (cMeth 3 "is_at" Fia (cVar 0) [(cK (.str ")"))]))) = cT
    show thn2 ((sFldI 3 "at" (cVar 0) (cK (.int 1))) [some (.b k), some (.v (.int (dp : Int))), none] (S.set k (rb z a))) _ = _
    rw [s1]
    rfl
  unfold FR
  show fin (c_Reading_told_rows Fia (FT n) [some (.b k), some (.v (.int (dp : Int))), none] (S.set k (rb z a))) = _
  rw [e]
theorem T_eq (hz : okT z) : ∀ r n, r ≤ 24 → 2 * r + 1 ≤ n → Rd z (FT n) (24 - r) (rdT z r)
  | r, 0, h1, h2 => by omega
  | r, n + 1, h1, h2 => by
    intro S k a hk ha
    have hs := hz.size
    have e0 : (Str.ofString "abcdefghijklmnopqrstuvwxyz" : Str) = sml := rfl
    have e1 : (Str.ofString "" : Str) = emp := rfl
    unfold FT
    show ∃ a', fin (c_Reading_term Fia (FR n) Ftk Fint [some (.b k), some (.v (.int ((24 - r : Nat) : Int))), none] (S.set k (rb z a))) = _
    cases hp : isA z a "(" with
    | true =>
      have lt := isA_lt hp
      cases r with
      | zero =>
        refine ⟨a, ?_⟩
        unfold rdT
        rw [if_pos hp]
        simp [c_Reading_term, fin, sSeq, sIf, bTru, bOf, bRes, cMeth, cVar, cK, ins_rb, lk_ia, evL, callR, notO, ia_eq, Res.bind, Res.st, bTruR, dTru, hk, hz, hp, cBin, eq_int, opt, sRaiseA, exR, cFld, fld_at, outR]
      | succ r =>
        cases n with
        | zero => omega
        | succ n =>
          have R := T_eq hz r n (by omega) (by omega)
          obtain ⟨a', h⟩ := FR_eq hz R (rdT_fwd r) hk lt
          refine ⟨a', ?_⟩
          have hd : ((24 - (r + 1) : Nat) : Int) + 1 = ((24 - r : Nat) : Int) := by omega
          have hne : ((24 - (r + 1) : Nat) : Int) ≠ 24 := by omega
          unfold rdT
          rw [if_pos hp]
          generalize ((24 - (r + 1) : Nat) : Int) = dp at hd hne ⊢
          have hne2 : (dp == 24) = false := beq_eq_false_iff_ne.mpr hne
          rw [← hd] at h
          generalize rdL z (rdT z r) (z.length + 1) (a + 1) [] = o at h ⊢
          cases o with
          | ok d e =>
            have h : FR (n + 1) [.b k, .v (.int (dp + 1))] (S.set k (rb z a)) = .ok (.v d) (S.set k (rb z e)) := h
            simp [c_Reading_term, fin, sSeq, sIf, bTru, bOf, bRes, cMeth, cVar, cK, ins_rb, lk_ia, lk_tr, lk_tk, lk_in, evL, callR, notO, ia_eq, Res.bind, Res.st, bTruR, dTru, hk, hz, hp, cBin, eq_int, opt, sNext, dAdd, sRet, retR, outR, hne2, h]
          | bad e =>
            have h : FR (n + 1) [.b k, .v (.int (dp + 1))] (S.set k (rb z a)) = .ex ⟨2, [("at", .int (e : Int))]⟩ (S.set k (rb z a')) := h
            simp [c_Reading_term, fin, sSeq, sIf, bTru, bOf, bRes, cMeth, cVar, cK, ins_rb, lk_ia, lk_tr, lk_tk, lk_in, evL, callR, notO, ia_eq, Res.bind, Res.st, bTruR, dTru, hk, hz, hp, cBin, eq_int, opt, sNext, dAdd, sRet, retR, outR, hne2, h]
    | false =>
      have base : ∃ a', fin (c_Reading_term Fia (FR n) Ftk Fint [some (.b k), some (.v (.int ((24 - r : Nat) : Int))), none] (S.set k (rb z a))) = outR k S z a' (if isA z a "." = true then .ok (.str emp) (a + 1)
          else if isA z a sml = true then .ok (if (mid z a (endW z a sml) == "none") = true then .non else .str (mid z a (endW z a sml))) (endW z a sml) else rdInt z a) := by
        generalize ((24 - r : Nat) : Int) = dp
        cases hd : isA z a "." with
        | true =>
          refine ⟨a, ?_⟩
          simp [c_Reading_term, fin, sSeq, sIf, bTru, bOf, bRes, cMeth, cVar, cK, ins_rb, lk_ia, lk_tr, lk_tk, lk_in, evL, callR, notO, ia_eq, Res.bind, Res.st, bTruR, dTru, hk, hz, hp, cBin, eq_int, opt, sNext, dAdd, sRet, retR, outR, hd, e1, sFldI, fld_at, addF, set_at1]
        | false =>
          cases hw : isA z a sml with
          | true =>
            refine ⟨a, ?_⟩
            have o1 := mid_ok hz a (endW z a sml)
            have o2 : PyData.strOk ("none" : Str) = true := by decide +kernel
            cases hq : (mid z a (endW z a sml) == ("none" : Str)) with
            | true => simp [c_Reading_term, fin, sSeq, sIf, bTru, bOf, bRes, cMeth, cVar, cK, ins_rb, lk_ia, lk_tr, lk_tk, lk_in, evL, callR, notO, ia_eq, Res.bind, Res.st, bTruR, dTru, hk, hz, hp, cBin, eq_int, opt, sNext, dAdd, sRet, retR, outR, hd, hw, e0, sSet, setU, tk_eq, ha, cIf, eq_str, o1, o2, hq]
            | false => simp [c_Reading_term, fin, sSeq, sIf, bTru, bOf, bRes, cMeth, cVar, cK, ins_rb, lk_ia, lk_tr, lk_tk, lk_in, evL, callR, notO, ia_eq, Res.bind, Res.st, bTruR, dTru, hk, hz, hp, cBin, eq_int, opt, sNext, dAdd, sRet, retR, outR, hd, hw, e0, sSet, setU, tk_eq, ha, cIf, eq_str, o1, o2, hq]
          | false =>
            obtain ⟨a', h⟩ := int_eq hk hz ha
            refine ⟨a', ?_⟩
            cases ho : rdInt z a with
            | ok d e =>
              rw [ho] at h
              have h : Fint [.b k] (S.set k (rb z a)) = .ok (.v d) (S.set k (rb z e)) := h
              simp [c_Reading_term, fin, sSeq, sIf, bTru, bOf, bRes, cMeth, cVar, cK, ins_rb, lk_ia, lk_tr, lk_tk, lk_in, evL, callR, notO, ia_eq, Res.bind, Res.st, bTruR, dTru, hk, hz, hp, cBin, eq_int, opt, sNext, dAdd, sRet, retR, outR, hd, hw, e0, h, ho]
            | bad e =>
              rw [ho] at h
              have h : Fint [.b k] (S.set k (rb z a)) = .ex ⟨2, [("at", .int (e : Int))]⟩ (S.set k (rb z a')) := h
              simp [c_Reading_term, fin, sSeq, sIf, bTru, bOf, bRes, cMeth, cVar, cK, ins_rb, lk_ia, lk_tr, lk_tk, lk_in, evL, callR, notO, ia_eq, Res.bind, Res.st, bTruR, dTru, hk, hz, hp, cBin, eq_int, opt, sNext, dAdd, sRet, retR, outR, hd, hw, e0, h, ho]
      cases r with
      | zero =>
        unfold rdT
        rw [if_neg (by rw [hp]; exact Bool.false_ne_true)]
        exact base
      | succ r =>
        unfold rdT
        rw [if_neg (by rw [hp]; exact Bool.false_ne_true)]
        exact base
end
end Rn
set_option Elab.async false
set_option linter.all false
set_option maxRecDepth 100000
set_option maxHeartbeats 8000000
namespace Rn
open PySem L2 PyProof.Rows
def outRd (z : Str) : Out := match rdT z 24 0 with
  | .ok d e => if e < z.length then .bad e else .ok d e
  | .bad e => .bad e
def Fini : CF := runF (n_Reading___init__ : List Str).length c_Reading__init
def Frt (n : Nat) : CF := runF (n_read_term : List Str).length (c_read_term Fini (FT n))
theorem set_last (S : List Box) (x y : Box) : (S ++ [x]).set S.length y = S ++ [y] := by
  rw [List.set_append_right _ _ (Nat.le_refl _), Nat.sub_self]
  rfl
def fs1 (z : Str) : List (Str × U) := [(("text" : Str), .v (.str z))]
section
variable {z : Str}
theorem ini_eq (S : List Box) : Fini [.b S.length, .v (.str z)] (S ++ [.ins 3 []]) = .ok (.v .non) (S ++ [rb z 0]) := by
  have h1 : insOf 3 (.b S.length) (S ++ [.ins 3 []]) = some (S.length, []) := by
    unfold insOf
    dsimp only
    rw [List.getElem?_append_right (Nat.le_refl _), Nat.sub_self]
    rfl
  have h2 : insOf 3 (.b S.length) (S ++ [.ins 3 (fs1 z)]) = some (S.length, fs1 z) := by
    unfold insOf
    dsimp only
    rw [List.getElem?_append_right (Nat.le_refl _), Nat.sub_self]
    rfl
  have h3 : putU "text" (.v (.str z)) [] = fs1 z := rfl
  have h5 : (fs1 z).length < 1000 := (by decide : 1 < 1000)
  have h4 : putU "at" (.v (.int 0)) (fs1 z) = rfs z 0 := rfl
  simp [Fini, runF, c_Reading__init, sSeq, sFldS, cVar, cK, Res.bind, Res.st, setF, h1, h2, h3, h4, h5, notO, set_last]
  rfl
theorem rt_eq (hz : okT z) (n : Nat) (hn : 49 ≤ n) (S : List Box) : ∃ g, Frt n [.v (.str z)] S = (match outRd z with
    | .ok d _ => .ok (.v d) (S ++ [g])
    | .bad e => .ex ⟨2, [("at", .int (e : Int))]⟩ (S ++ [g])) := by
  have hs := hz.size
  obtain ⟨a', h⟩ := T_eq hz 24 n (Nat.le_refl _) hn (S ++ [rb z 0]) S.length 0 (by simp) (Nat.zero_le _)
  rw [set_last] at h
  have h : FT n [.b S.length, .v (.int 0)] (S ++ [rb z 0]) = outR S.length (S ++ [rb z 0]) z a' (rdT z 24 0) := h
  have hns : insOf 3 (.b S.length) (S ++ [rb z 0]) = some (S.length, rfs z 0) := by
    have := ins_rb (S := S ++ [rb z 0]) (k := S.length) (a := 0) (z := z) (by simp)
    rwa [set_last] at this
  have hfa : ∀ e, fldR 3 "at" (.b S.length) (S ++ [rb z e]) = .ok (.v (.int (e : Int))) (S ++ [rb z e]) := fun e => by
    have := fld_at (S := S ++ [rb z 0]) (k := S.length) (a := e) (z := z) (by simp)
    rwa [set_last] at this
  have hmk : cMake 3 Fini [(cVar 0)] [some (.v (.str z)), none, none] S = .ok (.b S.length) (S ++ [rb z 0]) := by
    simp [cMake, evL, cVar, Res.bind, callR, notO, ini_eq, mkR]
  unfold outRd
  cases ho : rdT z 24 0 with
  | bad e =>
    rw [ho] at h
    have h : FT n [.b S.length, .v (.int 0)] (S ++ [rb z 0]) = .ex ⟨2, [("at", .int (e : Int))]⟩ (S ++ [rb z a']) := by
      rw [h]; show Res.ex _ ((S ++ [rb z 0]).set S.length (rb z a')) = _; rw [set_last]
    refine ⟨rb z a', ?_⟩
    simp [Frt, runF, c_read_term, sSeq, sSet, setU, hmk, Res.st, notO, cMeth, cVar, hns, lk_tm, evL, cK, callR, Res.bind, h]
  | ok d e =>
    rw [ho] at h
    have h : FT n [.b S.length, .v (.int 0)] (S ++ [rb z 0]) = .ok (.v d) (S ++ [rb z e]) := by
      rw [h]; show Res.ok _ ((S ++ [rb z 0]).set S.length (rb z e)) = _; rw [set_last]
    refine ⟨rb z e, ?_⟩
    have c1 : decide ((e : Int) < (z.length : Int)) = decide (e < z.length) := by congr 1; exact propext (by omega)
    by_cases hl : e < z.length
    · simp [Frt, runF, c_read_term, sSeq, sSet, setU, hmk, Res.st, notO, cMeth, cVar, hns, lk_tm, evL, cK, callR, Res.bind, h, sIf, bOf, bRes, cBin, cFld, hfa, cFun, fLen, hs, opt, dCmpI, c1, hl, sRaiseA, exR]
    · simp [Frt, runF, c_read_term, sSeq, sSet, setU, hmk, Res.st, notO, cMeth, cVar, hns, lk_tm, evL, cK, callR, Res.bind, h, sIf, bOf, bRes, cBin, cFld, hfa, cFun, fLen, hs, opt, dCmpI, c1, hl, sNext, sRet, retR]
open Classical in
/-- read_term, what it leaves behind forgotten -/
noncomputable def Mrt : CF := fun us S => match us with
  | [.v (.str z)] => if okT z then (match outRd z with
    | .ok d _ => .ok (.v d) S
    | .bad e => .ex ⟨2, [("at", .int (e : Int))]⟩ S) else .no
  | _ => .no
theorem rt_mir (n : Nat) (hn : 49 ≤ n) : MirG (p_read_term : List Str).length (Frt n) Mrt := fun us S hl => by
  unfold Mrt
  split
  · rename_i z
    by_cases hz : okT z
    · rw [if_pos hz]
      obtain ⟨g, h⟩ := rt_eq hz n hn S
      right
      cases ho : outRd z with
      | ok d e => rw [ho] at h; exact .inl ⟨d, [g], h, rfl⟩
      | bad e => rw [ho] at h; exact .inr ⟨_, [g], h, rfl⟩
    · rw [if_neg hz]
      exact .inl rfl
  · exact .inl rfl
def toldD (z : Str) : D := match outRd z with
  | .ok d _ => .lst [.str "term", d]
  | .bad e => .lst [.str "bad", .int (e : Int)]
noncomputable def Ftd : CF := runF (n__law_told : List Str).length (c_law_told Mrt)
theorem td_eq (hz : okT z) (S : List Box) : Ftd [.v (.str z)] S = .ok (.v (toldD z)) S := by
  have h : Mrt [.v (.str z)] S = (match outRd z with
    | .ok d _ => .ok (.v d) S
    | .bad e => .ex ⟨2, [("at", .int (e : Int))]⟩ S) := if_pos hz
  unfold toldD
  cases ho : outRd z with
  | ok d e =>
    rw [ho] at h
    simp [Ftd, runF, c_law_told, sTry, tryR, sRet, cVal, cLst, evL, cK, cCall, cVar, callR, notO, h, Res.bind, Res.st, lstR, pures, retR]
  | bad e =>
    rw [ho] at h
    simp [Ftd, runF, c_law_told, sTry, tryR, sRet, cVal, cLst, evL, cK, cCall, cVar, callR, notO, h, Res.bind, Res.st, lstR, pures, retR, gTag, noX]
end
end Rn
set_option Elab.async false
set_option linter.all false
set_option maxRecDepth 100000
set_option maxHeartbeats 8000000
namespace Rn
open PySem L2 PyProof.Rows
section
variable {S : List Box} {a : Nat} {z : Str}
theorem one_one (c d : Nat) : (one c == one d) = (c == d) := by
  by_cases h : c = d
  · rw [h, beq_self_eq_true, beq_self_eq_true]
  · rw [beq_eq_false_iff_ne.mpr h, beq_eq_false_iff_ne]
    intro q
    injection q with q
    injection q with q
    exact h (List.cons.inj q).1
theorem sg_ok (hz : okT z) (a : Nat) : PyData.strOk (sg z a) = true := by
  cases e : (cs z)[a]? with
  | none => rw [sg_none e]; exact strOk_emp
  | some c => rw [sg_some e]; exact hz.one e
theorem one_ok {d : Nat} (h : d < 1114112) : PyData.strOk (one d) = true := strOk_of fun c hc => by
  have hc : c ∈ [d] := hc
  rw [List.mem_singleton.mp hc]
  exact h
theorem sg_eq (d : Nat) : (sg z a == one d) = isA z a (one d) := by
  cases e : (cs z)[a]? with
  | none =>
    rw [sg_none e, isA_none e]
    rw [beq_eq_false_iff_ne]
    intro q
    have := one_beq d
    rw [← q] at this
    simp at this
  | some c =>
    rw [sg_some e, isA_some e, one_one]
    show (c == d) = decide (c ∈ [d])
    by_cases h : c = d
    · rw [h]; simp
    · rw [beq_eq_false_iff_ne.mpr h, decide_eq_false]
      intro q
      exact h (List.mem_singleton.mp q)
theorem eq_sg (hz : okT z) (S : List Box) (neg : Bool) (a d : Nat) (hd : d < 1114112) : dEq neg (.v (.str (sg z a))) (.v (.str (one d))) S = some (.bl (neg != isA z a (one d))) := by
  rw [eq_str S neg, sg_eq]
theorem eq_sg0 (hz : okT z) (S : List Box) (neg : Bool) (a : Nat) : dEq neg (.v (.str (sg z a))) (.v (.str emp)) S = some (.bl (neg != decide (z.length ≤ a))) := by
  rw [eq_str S neg]
  cases e : (cs z)[a]? with
  | none =>
    have h := List.getElem?_eq_none_iff.mp e
    rw [cs_length] at h
    rw [sg_none e, decide_eq_true h, beq_self_eq_true]
  | some c =>
    have h := (List.getElem?_eq_some_iff.mp e).1
    rw [cs_length] at h
    rw [sg_some e, decide_eq_false (by omega), one_beq]
theorem in_sg (S : List Box) (neg : Bool) (j : Str) (h : a < z.length) : dInS neg (.v (.str (sg z a))) (.v (.str j)) S = some (.bl (neg != isA z a j)) := by
  cases e : (cs z)[a]? with
  | none =>
    have h2 := List.getElem?_eq_none_iff.mp e
    rw [cs_length] at h2
    omega
  | some c => rw [sg_some e, isA_some e, in_one]
theorem ix_sg (S : List Box) (hz : okT z) (h : a < z.length) : dIx (.v (.str z)) (.v (.int (a : Int))) S = some (.str (sg z a)) := by
  have h2 : a < (cs z).length := by rw [cs_length]; exact h
  have e : (cs z)[a]? = some (cs z)[a] := List.getElem?_eq_getElem h2
  unfold dIx
  dsimp only
  rw [if_pos hz.size, show atI z.cps.toList (a : Int) = some (cs z)[a] from atI_nat e, sg_some e]
  rfl
/-- the run of signs, by a for over as many turns as there are signs -/
theorem run_loop (hz : okT z) (j : Str) (i : Nat) (ρ0 : Nat → Option U → Env) (b : CS)
    (hb : ∀ a x S, b (ρ0 a x) S = .nx (ρ0 (if isA z a j = true then a + 1 else a) x) S) (ht : ∀ a x d, Tgt.put (.nm i) d (ρ0 a x) = some (ρ0 a (some (.v d)))) :
    ∀ (ds : List D) (a : Nat) (x : Option U) (S : List Box), a ≤ z.length → ∃ x', forF (.nm i) b ds (ρ0 a x) S = .nx (ρ0 (min (a + ds.length) (endW z a j)) x') S
  | [], a, x, S, ha => ⟨x, by
      have := endW_ge (z := z) (a := a) (j := j)
      rw [List.length_nil, Nat.add_zero, Nat.min_eq_left this]
      rfl⟩
  | d :: ds, a, x, S, ha => by
    unfold forF
    rw [ht]
    dsimp only
    rw [hb]
    cases h : isA z a j with
    | true =>
      have lt := isA_lt h
      obtain ⟨x', e⟩ := run_loop hz j i ρ0 b hb ht ds (a + 1) (some (.v d)) S (by omega)
      refine ⟨x', ?_⟩
      rw [endW_yes h, List.length_cons, show a + (ds.length + 1) = a + 1 + ds.length by omega, ← e]
      rfl
    | false =>
      obtain ⟨x', e⟩ := run_loop hz j i ρ0 b hb ht ds a (some (.v d)) S ha
      refine ⟨x', ?_⟩
      rw [endW_no h] at e ⊢
      rw [Nat.min_eq_right (by omega)] at e ⊢
      exact e
/-! ## the law's integer -/
def lawR : Out → D
  | .ok d e => .lst [d, .int (e : Int)]
  | .bad e => .lst [.str "bad", .int (e : Int)]
def Fli : CF := runF (n__law_integer : List Str).length c_law_integer
theorem lt_dec (a b : Nat) : decide ((a : Int) < (b : Int)) = decide (a < b) := by congr 1; exact propext (by omega)
def c_figs : CS := (sIf (bAnd (bOf (cBin (dCmpI fun i j => decide (i < j)) (cVar 1) (cFun fLen [(cVar 0)]))) (bOf (cBin (dInS false) (cBin dIx (cVar 0) (cVar 1)) (cK (.str "0123456789"))))) (sSet 1 (cBin dAdd (cVar 1) (cK (.int 1)))) sNext)
theorem figs_step (hz : okT z) (a0 a1 : U) (a : Nat) (x : Option U) (S : List Box) : c_figs [some (.v (.str z)), some (.v (.int (a : Int))), some a0, some a1, x] S =
    .nx [some (.v (.str z)), some (.v (.int ((if isA z a dig = true then a + 1 else a : Nat) : Int))), some a0, some a1, x] S := by
  have hs := hz.size
  have ed : (Str.ofString "0123456789" : Str) = dig := rfl
  unfold c_figs
  by_cases h : a < z.length
  · cases hi : isA z a dig with
    | true => simp [sSeq, sIf, sSet, setU, cVar, cK, cBin, cFun, fLen, evL, bAnd, bOf, bRes, dCmpI, dAdd, opt, Res.bind, Res.st, notO, sNext, sRet, retR, cVal, cLst, lstR, pures, fin, pSm, pIntR, cSl, slS, hs, lt_dec, h, ix_sg S hz h, in_sg S _ _ h, ed, hi]
    | false => simp [sSeq, sIf, sSet, setU, cVar, cK, cBin, cFun, fLen, evL, bAnd, bOf, bRes, dCmpI, dAdd, opt, Res.bind, Res.st, notO, sNext, sRet, retR, cVal, cLst, lstR, pures, fin, pSm, pIntR, cSl, slS, hs, lt_dec, h, ix_sg S hz h, in_sg S _ _ h, ed, hi]
  · have hi : isA z a dig = false := by
      cases q : isA z a dig with
      | true => exact absurd (isA_lt q) h
      | false => rfl
    simp [sSeq, sIf, sSet, setU, cVar, cK, cBin, cFun, fLen, evL, bAnd, bOf, bRes, dCmpI, dAdd, opt, Res.bind, Res.st, notO, sNext, sRet, retR, cVal, cLst, lstR, pures, fin, pSm, pIntR, cSl, slS, hs, lt_dec, h, hi]
def c_li3 : CS := (sSeq (sIf (bOf (cBin (dEq false) (cVar 1) (cVar 3))) (sRet (cVal (cLst [(cK (.str "bad")), (cVar 1)]))) sNext)
    (sSeq (sIf (bAnd (bOf (cBin (dEq false) (cBin dIx (cVar 0) (cVar 3)) (cK (.str "0")))) (bOf (cBin (dCmpI fun i j => decide (j < i)) (cVar 1) (cBin dAdd (cVar 3) (cK (.int 1)))))) (sRet (cVal (cLst [(cK (.str "bad")), (cBin dAdd (cVar 3) (cK (.int 1)))]))) sNext)
    (sSeq (sIf (bOf (cBin (dCmpI fun i j => decide (j < i)) (cBin dSub (cVar 1) (cVar 3)) (cK (.int 20)))) (sRet (cVal (cLst [(cK (.str "bad")), (cBin dAdd (cVar 3) (cK (.int 20)))]))) sNext)
    (sRet (cVal (cLst [(cFun fInt [(cSl slS (cVar 0) (pSm (cVar 2)) (pSm (cVar 1)))]), (cVar 1)]))))))
theorem li_split : c_law_integer = sSeq (sSet 2 (cVar 1)) (sSeq (sIf (bOf (cBin (dEq false) (cSl slS (cVar 0) (pSm (cVar 1)) (pSm (cBin dAdd (cVar 1) (cK (.int 1))))) (cK (.str "-")))) (sSeq (sSet 1 (cBin dAdd (cVar 1) (cK (.int 1))))
    (sIf (bOf (cBin (dEq false) (cSl slS (cVar 0) (pSm (cVar 1)) (pSm (cBin dAdd (cVar 1) (cK (.int 1))))) (cK (.str "0")))) (sRet (cVal (cLst [(cK (.str "bad")), (cVar 1)]))) sNext)) sNext)
    (sSeq (sSet 3 (cVar 1)) (sSeq (sFor (cRng1 [(cFun fLen [(cVar 0)])]) (.nm 4) c_figs) c_li3))) := rfl
theorem li3_eq (hz : okT z) (m : Bool) (a0 a : Nat) (ha : a ≤ z.length) (h0 : if m = true then a0 + 1 = a ∧ isA z a0 "-" = true ∧ isA z a "0" = false else a0 = a) (x : Option U) (S : List Box) :
    fin (c_li3 [some (.v (.str z)), some (.v (.int (endW z a dig : Int))), some (.v (.int (a0 : Int))), some (.v (.int (a : Int))), x] S) = .ok (.v (lawR (rdInt1 z m a))) S := by
  have hs := hz.size
  have e48 : (Str.ofString "0" : Str) = one 48 := rfl
  have he := endW_le (j := dig) ha
  have hge := endW_ge (z := z) (a := a) (j := dig)
  unfold c_li3
  cases hd : isA z a dig with
  | false =>
    have q := endW_no hd
    have r : rdInt1 z m a = .bad a := by unfold rdInt1; rw [hd]; rfl
    rw [r, q]
    simp [sSeq, sIf, sSet, setU, cVar, cK, cBin, cFun, fLen, evL, bAnd, bOf, bRes, dCmpI, dAdd, opt, Res.bind, Res.st, notO, sNext, sRet, retR, cVal, cLst, lstR, pures, fin, pSm, pIntR, cSl, slS, eq_int, lawR]
  | true =>
    have lt := isA_lt hd
    have q := endW_yes hd
    have q2 := endW_ge (z := z) (a := a + 1) (j := dig)
    have hne : (((endW z a dig : Nat) : Int) == (a : Int)) = false := beq_eq_false_iff_ne.mpr (by omega)
    have hm0 : (m && isA z a "0") = false := by
      cases m with
      | false => rfl
      | true => rw [if_pos rfl] at h0; exact h0.2.2
    have hv := ival_some hd
    have c0 : PyData.strOk (sg z a) = true := sg_ok hz a
    have hml := mid_len (z := z) (j := dig) (a := a) rfl he
    have hint : ¬ 20 < endW z a dig - a → fInt [.v (.str (mid z a0 (endW z a dig)))] S = some (.int (if m = true then -ival z a (endW z a dig) else ival z a (endW z a dig))) := fun h20 => by
      have hv := hv h20 ha
      cases m with
      | false =>
        rw [if_neg Bool.false_ne_true] at h0
        rw [h0]
        unfold fInt
        dsimp only
        rw [if_pos (by rw [hml]; omega), hv]
        rfl
      | true =>
        rw [if_pos rfl] at h0
        obtain ⟨h1, h2, h3⟩ := h0
        have hl0 : a0 < z.length := isA_lt h2
        have hla : a0 < (cs z).length := by rw [cs_length]; exact hl0
        have hcs : cs (mid z a0 (endW z a dig)) = 45 :: cs (mid z a (endW z a dig)) := by
          rw [mid_cs, mid_cs, List.drop_eq_getElem_cons hla, show endW z a dig - a0 = (endW z a dig - a) + 1 by omega, List.take_succ_cons, h1]
          congr 1
          have e := isA_some (j := one 45) (List.getElem?_eq_getElem hla)
          have h2 : isA z a0 (one 45) = true := h2
          rw [h2] at e
          have e := of_decide_eq_true e.symm
          exact List.mem_singleton.mp (show (cs z)[a0] ∈ [45] from e)
        have hne2 : cs (mid z a (endW z a dig)) ≠ [] := fun z0 => by
          have : (cs (mid z a (endW z a dig))).length = 0 := by rw [z0]; rfl
          rw [cs_length, hml] at this
          omega
        have hml0 : (mid z a0 (endW z a dig)).length ≤ 640 := by
          rw [mid_len (z := z) (j := dig) (a := a0) rfl he]
          omega
        have i1 := intText_neg hcs dig_all hne2 (by omega)
        have i2 := intText_digits (x := mid z a (endW z a dig)) dig_all hne2 (by rw [hml]; omega)
        unfold fInt
        dsimp only
        rw [if_pos hml0, i1]
        unfold ival
        rw [i2]
        rfl
    have hcut : cutS z (some (a0 : Int)) (some ((endW z a dig : Nat) : Int)) = mid z a0 (endW z a dig) := by
      refine cut_mid z a0 _ ?_ he
      cases m with
      | false => rw [if_neg Bool.false_ne_true] at h0; omega
      | true => rw [if_pos rfl] at h0; omega
    have c1 : decide ((a : Int) + 1 < ((endW z a dig : Nat) : Int)) = decide (1 < endW z a dig - a) := by congr 1; exact propext (by omega)
    have c2 : decide ((20 : Int) < ((endW z a dig : Nat) : Int) - (a : Int)) = decide (20 < endW z a dig - a) := by congr 1; exact propext (by omega)
    unfold rdInt1
    rw [hd, hm0]
    have ez : isA z a (Str.ofString "0") = isA z a (one 48) := rfl
    by_cases d1 : (isA z a "0" && decide (1 < endW z a dig - a)) = true
    · rw [if_neg (by decide), if_pos d1]
      obtain ⟨x1, x2⟩ := Bool.and_eq_true_iff.mp d1
      rw [ez] at x1
      simp [sSeq, sIf, sSet, setU, cVar, cK, cBin, cFun, fLen, evL, bAnd, bOf, bRes, dCmpI, dAdd, opt, Res.bind, Res.st, notO, sNext, sRet, retR, cVal, cLst, lstR, pures, fin, pSm, pIntR, cSl, slS, eq_int, hne, ix_sg S hz lt, e48, eq_sg hz, x1, c1, x2, lawR]
    · rw [if_neg (by decide), if_neg d1]
      have d1 : (isA z a (one 48) && decide (1 < endW z a dig - a)) = false := Bool.eq_false_iff.mpr d1
      by_cases d2 : 20 < endW z a dig - a
      · rw [if_pos d2]
        cases x1 : isA z a (one 48) with
        | false => simp [sSeq, sIf, sSet, setU, cVar, cK, cBin, cFun, fLen, evL, bAnd, bOf, bRes, dCmpI, dAdd, opt, Res.bind, Res.st, notO, sNext, sRet, retR, cVal, cLst, lstR, pures, fin, pSm, pIntR, cSl, slS, eq_int, hne, ix_sg S hz lt, e48, eq_sg hz, x1, dSub, c2, d2, lawR]
        | true =>
          rw [x1] at d1
          have d1 : decide (1 < endW z a dig - a) = false := d1
          simp [sSeq, sIf, sSet, setU, cVar, cK, cBin, cFun, fLen, evL, bAnd, bOf, bRes, dCmpI, dAdd, opt, Res.bind, Res.st, notO, sNext, sRet, retR, cVal, cLst, lstR, pures, fin, pSm, pIntR, cSl, slS, eq_int, hne, ix_sg S hz lt, e48, eq_sg hz, x1, c1, d1, dSub, c2, d2, lawR]
      · rw [if_neg d2]
        have hint := hint d2
        cases x1 : isA z a (one 48) with
        | false => simp [sSeq, sIf, sSet, setU, cVar, cK, cBin, cFun, fLen, evL, bAnd, bOf, bRes, dCmpI, dAdd, opt, Res.bind, Res.st, notO, sNext, sRet, retR, cVal, cLst, lstR, pures, fin, pSm, pIntR, cSl, slS, eq_int, hne, ix_sg S hz lt, e48, eq_sg hz, x1, dSub, c2, d2, lawR, hs, hcut, hint]
        | true =>
          rw [x1] at d1
          have d1 : decide (1 < endW z a dig - a) = false := d1
          simp [sSeq, sIf, sSet, setU, cVar, cK, cBin, cFun, fLen, evL, bAnd, bOf, bRes, dCmpI, dAdd, opt, Res.bind, Res.st, notO, sNext, sRet, retR, cVal, cLst, lstR, pures, fin, pSm, pIntR, cSl, slS, eq_int, hne, ix_sg S hz lt, e48, eq_sg hz, x1, c1, d1, dSub, c2, d2, lawR, hs, hcut, hint]
theorem rng_len (S : List Box) (hz : okT z) (ρ : Env) (h : ρ[0]? = some (some (.v (.str z)))) : cRng1 [(cFun fLen [(cVar 0)])] ρ S = .ok (rngD 0 z.length) S := by
  have hs := hz.size
  have h1 := hz.1
  simp [cRng1, evL, cFun, fLen, cVar, h, hs, Res.bind, opt, itR1]
  omega
theorem li2_eq (hz : okT z) (m : Bool) (a0 a : Nat) (ha : a ≤ z.length) (h0 : if m = true then a0 + 1 = a ∧ isA z a0 "-" = true ∧ isA z a "0" = false else a0 = a) (S : List Box) :
    fin ((sSeq (sSet 3 (cVar 1)) (sSeq (sFor (cRng1 [(cFun fLen [(cVar 0)])]) (.nm 4) c_figs) c_li3)) [some (.v (.str z)), some (.v (.int (a : Int))), some (.v (.int (a0 : Int))), none, none] S) = .ok (.v (lawR (rdInt1 z m a))) S := by
  obtain ⟨x', e⟩ := run_loop hz dig 4 (fun b x => [some (.v (.str z)), some (.v (.int (b : Int))), some (.v (.int (a0 : Int))), some (.v (.int (a : Int))), x]) c_figs (fun b x S => figs_step hz _ _ b x S) (fun b x d => rfl) (rngD 0 z.length) a none S ha
  have hm : min (a + (rngD 0 z.length).length) (endW z a dig) = endW z a dig := by
    rw [len_rng]
    have := endW_le (j := dig) ha
    omega
  rw [hm] at e
  have h3 := li3_eq hz m a0 a ha h0 x' S
  have hr := rng_len (z := z) S hz [some (.v (.str z)), some (.v (.int (a : Int))), some (.v (.int (a0 : Int))), some (.v (.int (a : Int))), none] rfl
  simp only [sSeq, sSet, setU, cVar, sFor, Res.st, notO, List.getElem?_cons_succ, List.getElem?_cons_zero, List.length_cons, List.length_nil, List.set_cons_succ, List.set_cons_zero, hr]
  simp [hr, e, h3]
theorem li_eq (hz : okT z) (ha : a ≤ z.length) (S : List Box) : Fli [.v (.str z), .v (.int (a : Int))] S = .ok (.v (lawR (rdInt z a))) S := by
  have hs := hz.size
  have e45 : (Str.ofString "-" : Str) = one 45 := rfl
  have e48 : (Str.ofString "0" : Str) = one 48 := rfl
  have z45 : isA z a (Str.ofString "-") = isA z a (one 45) := rfl
  show fin (c_law_integer [some (.v (.str z)), some (.v (.int (a : Int))), none, none, none] S) = _
  rw [li_split]
  unfold rdInt
  rw [z45]
  cases hm : isA z a (one 45) with
  | false =>
    have l2 := li2_eq hz false a a ha rfl S
    rw [if_neg Bool.false_ne_true, ← l2]
    generalize (sSeq (sSet 3 (cVar 1)) (sSeq (sFor (cRng1 [(cFun fLen [(cVar 0)])]) (.nm 4) c_figs) c_li3)) = R
    simp [sSeq, sIf, sSet, setU, cVar, cK, cBin, cFun, fLen, evL, bAnd, bOf, bRes, dCmpI, dAdd, opt, Res.bind, Res.st, notO, sNext, sRet, retR, cVal, cLst, lstR, pures, fin, pSm, pIntR, cSl, slS, hs, cut_one, e45, e48, eq_sg hz, hm]
  | true =>
    have lt := isA_lt hm
    rw [if_pos rfl]
    have z48 : isA z (a + 1) (Str.ofString "0") = isA z (a + 1) (one 48) := rfl
    cases h0 : isA z (a + 1) (one 48) with
    | true =>
      have r : rdInt1 z true (a + 1) = .bad (a + 1) := by
        unfold rdInt1
        rw [z48, h0]
        simp
      rw [r]
      generalize (sSeq (sSet 3 (cVar 1)) (sSeq (sFor (cRng1 [(cFun fLen [(cVar 0)])]) (.nm 4) c_figs) c_li3)) = R
      have cc : cutS z (some ((a : Int) + 1)) (some ((a : Int) + 1 + 1)) = sg z (a + 1) := cut_one z (a + 1)
      simp [sSeq, sIf, sSet, setU, cVar, cK, cBin, cFun, fLen, evL, bAnd, bOf, bRes, dCmpI, dAdd, opt, Res.bind, Res.st, notO, sNext, sRet, retR, cVal, cLst, lstR, pures, fin, pSm, pIntR, cSl, slS, hs, cut_one, cc, e45, e48, eq_sg hz, hm, h0, lawR]
    | false =>
      have l2 := li2_eq hz true a (a + 1) (by omega) ⟨rfl, hm, h0⟩ S
      rw [← l2]
      generalize (sSeq (sSet 3 (cVar 1)) (sSeq (sFor (cRng1 [(cFun fLen [(cVar 0)])]) (.nm 4) c_figs) c_li3)) = R
      have cc : cutS z (some ((a : Int) + 1)) (some ((a : Int) + 1 + 1)) = sg z (a + 1) := cut_one z (a + 1)
      simp [sSeq, sIf, sSet, setU, cVar, cK, cBin, cFun, fLen, evL, bAnd, bOf, bRes, dCmpI, dAdd, opt, Res.bind, Res.st, notO, sNext, sRet, retR, cVal, cLst, lstR, pures, fin, pSm, pIntR, cSl, slS, hs, cut_one, cc, e45, e48, eq_sg hz, hm, h0]
end
end Rn
set_option Elab.async false
set_option linter.all false
set_option maxRecDepth 100000
set_option maxHeartbeats 8000000
namespace Rn
open PySem L2 PyProof.Rows
/-- what a reader may answer -/
def okD : Nat → D → Prop
  | _, .non => True
  | _, .int i => i.natAbs < 10 ^ 21
  | _, .str x => PyData.strOk x = true ∧ x.length ≤ 1000000 ∧ x ≠ "bad"
  | n + 1, .tup xs => ∀ d ∈ xs, okD n d
  | _, _ => False
theorem okD_str {n : Nat} {x : Str} : okD n (.str x) ↔ PyData.strOk x = true ∧ x.length ≤ 1000000 ∧ x ≠ "bad" := by cases n <;> exact Iff.rfl
theorem okD_int {n : Nat} {i : Int} : okD n (.int i) ↔ i.natAbs < 10 ^ 21 := by cases n <;> exact Iff.rfl
theorem okD_non {n : Nat} : okD n .non := by cases n <;> exact True.intro
theorem okD_up : ∀ {n : Nat} {d : D}, okD n d → okD (n + 1) d
  | _, .non, _ => okD_non
  | n, .int i, h => okD_int.mpr (okD_int.mp h)
  | n, .str x, h => okD_str.mpr (okD_str.mp h)
  | n + 1, .tup xs, h => fun d hd => okD_up (h d hd)
  | 0, .tup xs, h => h.elim
  | n, .bl _, h => by cases n <;> exact h.elim
  | n, .lst _, h => by cases n <;> exact h.elim
  | n, .con _, h => by cases n <;> exact h.elim
  | n, .ty _, h => by cases n <;> exact h.elim
  | n, .fn _, h => by cases n <;> exact h.elim
mutual
theorem okD_py : ∀ {n : Nat} {d : D}, okD n d → ∃ p, toPy d = some p ∧ p.canLay0 = true ∧ p.depth ≤ n
  | _, .non, _ => ⟨.none, rfl, rfl, Nat.zero_le _⟩
  | n, .int i, h => ⟨.int i, rfl, rfl, Nat.zero_le _⟩
  | n, .str x, h => ⟨.str x, rfl, (okD_str.mp h).1, Nat.zero_le _⟩
  | n + 1, .tup xs, h => by
    obtain ⟨ps, h1, h2, h3⟩ := okD_pyL (n := n) (xs := xs) h
    refine ⟨.tuple ps, ?_, h2, ?_⟩
    · show (toPyL xs).map PyData.tuple = _
      rw [h1]; rfl
    · show PyData.depth (.tuple ps) ≤ n + 1
      simp only [PyData.depth]
      omega
  | 0, .tup xs, h => h.elim
  | n, .bl _, h => by cases n <;> exact h.elim
  | n, .lst _, h => by cases n <;> exact h.elim
  | n, .con _, h => by cases n <;> exact h.elim
  | n, .ty _, h => by cases n <;> exact h.elim
  | n, .fn _, h => by cases n <;> exact h.elim
theorem okD_pyL : ∀ {n : Nat} {xs : List D}, (∀ d ∈ xs, okD n d) → ∃ ps, toPyL xs = some ps ∧ PyData.canLayAll0 ps = true ∧ PyData.depthAll ps ≤ n
  | n, [], _ => ⟨[], rfl, rfl, Nat.zero_le _⟩
  | n, d :: ds, h => by
    obtain ⟨p, h1, h2, h3⟩ := okD_py (h d List.mem_cons_self)
    obtain ⟨ps, g1, g2, g3⟩ := okD_pyL (n := n) (xs := ds) fun e he => h e (List.mem_cons_of_mem _ he)
    refine ⟨p :: ps, ?_, ?_, ?_⟩
    · show (match toPy d, toPyL ds with | some e, some es => some (e :: es) | _, _ => none) = _
      rw [h1, g1]
    · show (p.canLay0 && PyData.canLayAll0 ps) = true
      rw [h2, g2]; rfl
    · simp only [PyData.depthAll]
      omega
end
theorem dEq_of (S : List Box) (neg : Bool) {x y : U} {p q : PyData} (hx : uPy x S = some p) (hy : uPy y S = some q) (sp : SeqAt.shaped p = true) (sq : SeqAt.shaped q = true) : dEq neg x y S = some (.bl (neg != PyData.eqv p q)) := by
  unfold dEq
  split
  · cases hx
    cases hy
    rfl
  · rw [hx, hy]
    dsimp only
    rw [if_pos ⟨sp, sq⟩]
theorem eq_bad (S : List Box) {n : Nat} (hn : n ≤ 64) {d : D} (h : okD n d) : dEq false (.v d) (.v (.str "bad")) S = some (.bl false) := by
  obtain ⟨p, h1, h2, h3⟩ := okD_py h
  have sb : SeqAt.shaped (.str "bad") = true := by decide +kernel
  have sp : SeqAt.shaped p = true := by unfold SeqAt.shaped; rw [h2, decide_eq_true (by omega)]; rfl
  have hy : uPy (.v (.str "bad")) S = some (.str "bad") := rfl
  have hx : uPy (.v d) S = some p := h1
  rw [dEq_of S false hx hy sp sb]
  have e : PyData.eqv p (.str "bad") = false := by
    cases d with
    | str x =>
      cases h1
      exact beq_eq_false_iff_ne.mpr (okD_str.mp h).2.2
    | non => cases h1; rfl
    | int i => cases h1; rfl
    | tup xs =>
      have h1 : (toPyL xs).map PyData.tuple = some p := h1
      cases q : toPyL xs with
      | none => rw [q] at h1; cases h1
      | some ps => rw [q] at h1; cases h1; rfl
    | bl _ => cases n <;> exact h.elim
    | lst _ => cases n <;> exact h.elim
    | con _ => cases n <;> exact h.elim
    | ty _ => cases n <;> exact h.elim
    | fn _ => cases n <;> exact h.elim
  rw [e]
  rfl
/-- no word of it is bad -/
def nobad (z : Str) : Prop := ∀ a b, mid z a b ≠ "bad"
section
variable {S : List Box} {a : Nat} {z : Str}
theorem val_lt : ∀ (l : List Nat), NumText.AllDigits l → NumText.digitsVal l < 10 ^ l.length := by
  have go : ∀ (l : List Nat) (acc : Nat), NumText.AllDigits l → l.foldl (fun acc c => acc * 10 + (c - 48)) acc < (acc + 1) * 10 ^ l.length := by
    intro l
    induction l with
    | nil => intro acc _; simp
    | cons c l ih =>
      intro acc h
      have h1 := h.head
      have h2 := ih (acc * 10 + (c - 48)) h.tail
      rw [List.foldl_cons, List.length_cons, Nat.pow_succ]
      refine Nat.lt_of_lt_of_le h2 ?_
      rw [Nat.mul_comm (10 ^ l.length) 10, ← Nat.mul_assoc]
      exact Nat.mul_le_mul_right _ (by omega)
  intro l h
  have := go l 0 h
  simpa [NumText.digitsVal] using this
theorem int1_ok {m : Bool} {d : D} {e : Nat} (n : Nat) (h : rdInt1 z m a = .ok d e) : okD n d := by
  unfold rdInt1 at h
  split at h
  · cases h
  · rename_i h1
    have h1 : isA z a dig = true := by
      cases q : isA z a dig with
      | true => rfl
      | false => rw [q] at h1; exact absurd rfl h1
    split at h
    · cases h
    · split at h
      · cases h
      · rename_i h20
        injection h with h2 h3
        have hle := Nat.le_of_lt (isA_lt h1)
        have hl := mid_len (z := z) (j := dig) (a := a) rfl (endW_le (j := dig) hle)
        have hne : cs (mid z a (endW z a dig)) ≠ [] := fun q => by
          have q1 := endW_yes h1
          have q2 := endW_ge (z := z) (a := a + 1) (j := dig)
          have h3 : (cs (mid z a (endW z a dig))).length = 0 := by rw [q]; rfl
          rw [cs_length, hl] at h3
          omega
        have i2 := intText_digits (x := mid z a (endW z a dig)) dig_all hne (by rw [hl]; omega)
        have hb := val_lt _ (dig_all (z := z) (a := a))
        rw [cs_length, hl] at hb
        have hb2 : NumText.digitsVal (cs (mid z a (endW z a dig))) < 10 ^ 21 := Nat.lt_of_lt_of_le hb (Nat.pow_le_pow_right (by decide) (by omega))
        have hv : ival z a (endW z a dig) = ((NumText.digitsVal (cs (mid z a (endW z a dig))) : Nat) : Int) := by
          unfold ival
          rw [i2]
          rfl
        rw [← h2]
        refine okD_int.mpr ?_
        rw [hv]
        split <;> omega
theorem int_ok {d : D} {e : Nat} (n : Nat) (h : rdInt z a = .ok d e) : okD n d := by
  unfold rdInt at h
  split at h
  · exact int1_ok n h
  · exact int1_ok n h
theorem rdL_ok {f : Nat → Out} {n : Nat} (F : ∀ a d e, f a = .ok d e → okD n d) : ∀ m a found d e, (∀ x ∈ found, okD n x) → rdL z f m a found = .ok d e → okD (n + 1) d
  | 0, a, found, d, e, _, h => by cases h
  | m + 1, a, found, d, e, hf, h => by
    unfold rdL at h
    split at h
    · injection h with h2 h3
      rw [← h2]
      exact hf
    · split at h
      · cases h
      · split at h
        · rename_i d1 e1 h1
          refine rdL_ok F m e1 _ d e (fun x hx => ?_) h
          rcases List.mem_append.mp hx with hx | hx
          · exact hf x hx
          · rw [List.mem_singleton.mp hx]
            exact F _ _ _ h1
        · cases h
theorem word_ok (hz : okT z) (nb : nobad z) (n : Nat) : okD n (if (mid z a (endW z a sml) == "none") = true then .non else .str (mid z a (endW z a sml))) := by
  split
  · exact okD_non
  · refine okD_str.mpr ⟨mid_ok hz _ _, ?_, nb _ _⟩
    have : (mid z a (endW z a sml)).length ≤ z.length := by
      show (((cs z).drop a).take _).toArray.size ≤ _
      rw [List.size_toArray, List.length_take, List.length_drop, cs_length]
      omega
    exact Nat.le_trans this hz.1
theorem rdT_ok (hz : okT z) (nb : nobad z) : ∀ r a d e, rdT z r a = .ok d e → okD (r + 1) d
  | 0, a, d, e, h => by
    unfold rdT at h
    split at h
    · cases h
    · split at h
      · injection h with h2 h3
        rw [← h2]
        exact okD_str.mpr ⟨strOk_emp, by decide, by decide⟩
      · split at h
        · injection h with h2 h3
          rw [← h2]
          exact word_ok hz nb _
        · exact int_ok _ h
  | r + 1, a, d, e, h => by
    unfold rdT at h
    split at h
    · exact rdL_ok (rdT_ok hz nb r) _ _ [] d e (fun _ h => by cases h) h
    · split at h
      · injection h with h2 h3
        rw [← h2]
        exact okD_str.mpr ⟨strOk_emp, by decide, by decide⟩
      · split at h
        · injection h with h2 h3
          rw [← h2]
          exact word_ok hz nb _
        · exact int_ok _ h
end
end Rn
set_option Elab.async false
set_option linter.all false
set_option maxRecDepth 100000
set_option maxHeartbeats 8000000
namespace Rn
open PySem L2 PyProof.Rows
def c_ents (F : CF) : CS :=
  (sSeq (sIf (bOf (cBin (dEq false) (cSl slS (cVar 0) (pSm (cVar 1)) (pSm (cBin dAdd (cVar 1) (cK (.int 1))))) (cK (.str ")")))) (sRet (cVal (cLst [(cFun fTup [(cVar 3)]), (cBin dAdd (cVar 1) (cK (.int 1)))]))) sNext)
    (sSeq (sIf (bTru (cVar 3)) (sSeq (sIf (bOf (cBin (dEq true) (cSl slS (cVar 0) (pSm (cVar 1)) (pSm (cBin dAdd (cVar 1) (cK (.int 1))))) (cK (.str " ")))) (sRet (cVal (cLst [(cK (.str "bad")), (cVar 1)]))) sNext)
    (sSet 1 (cBin dAdd (cVar 1) (cK (.int 1))))) sNext)
    (sSeq (sAsgL [(.nm 5), (.nm 6)] (cCall F [(cVar 0), (cVar 1), (cVar 2)]))
    (sSeq (sIf (bAnd (bOf (cBin (dEq false) (cVar 5) (cK (.str "bad")))) (bTru (cFun fIsi [(cVar 5), (cK (.ty "str"))]))) (sRet (cVal (cLst [(cVar 5), (cVar 6)]))) sNext)
    (sSeq (sMut 3 mApp [(cVar 5)] fun _ ρ S => .nx ρ S)
    (sSet 1 (cVar 6)))))))
def c_lbad : CS := (sRet (cVal (cLst [(cK (.str "bad")), (cVar 1)])))
theorem ents_split (F : CF) : c_law_entries F = sSeq (sOwn 3 (cLst [])) (sSeq (sFor (cRng1 [(cBin dAdd (cFun fLen [(cVar 0)]) (cK (.int 1)))]) (.nm 4) (c_ents F)) c_lbad) := rfl
mutual
def FLR : Nat → CF
  | 0 => fun _ _ => .no
  | n + 1 => runF (n__law_read : List Str).length (c_law_read (FLE n) Fli)
def FLE : Nat → CF
  | 0 => fun _ _ => .no
  | n + 1 => runF (n__law_entries : List Str).length (c_law_entries (FLR n))
end
section
variable {S : List Box} {a : Nat} {z : Str}
/-- the law's reader one level down -/
def Ld (z : Str) (F : CF) (dp : Nat) (f : Nat → Out) : Prop := ∀ (S : List Box) (a : Nat), a ≤ z.length → F [.v (.str z), .v (.int (a : Int)), .v (.int (dp : Int))] S = .ok (.v (lawR (f a))) S
theorem ents_step (hz : okT z) {F : CF} {dp : Nat} {f : Nat → Out} (R : Ld z F dp f) (hok : ∀ a d e, f a = .ok d e → okD 60 d) (found : List D) (hfl : found.length < sizeLine) (x4 x5 x6 : Option U) (ha : a ≤ z.length) :
    c_ents F [some (.v (.str z)), some (.v (.int (a : Int))), some (.v (.int (dp : Int))), some (.o found), x4, x5, x6] S =
      if isA z a ")" = true then .rt (.v (lawR (.ok (.tup found) (a + 1)))) S
      else if (!found.isEmpty && !isA z a " ") = true then .rt (.v (lawR (.bad a))) S
      else match f (if found.isEmpty = true then a else a + 1) with
        | .ok d e => .nx [some (.v (.str z)), some (.v (.int (e : Int))), some (.v (.int (dp : Int))), some (.o (found ++ [d])), x4, some (.v d), some (.v (.int (e : Int)))] S
        | .bad e => .rt (.v (lawR (.bad e))) S := by
  have hs := hz.size
  have e41 : (Str.ofString ")" : Str) = one 41 := rfl
  have e32 : (Str.ofString " " : Str) = one 32 := rfl
  have z41 : isA z a (Str.ofString ")") = isA z a (one 41) := rfl
  have z32 : isA z a (Str.ofString " ") = isA z a (one 32) := rfl
  have kb : kitB "str" "str" = some true := by decide +kernel
  have bb : dEq false (.v (.str "bad")) (.v (.str "bad")) S = some (.bl true) := by
    rw [eq_str]
    rfl
  rw [z41, z32]
  -- the reading, and what follows it
  have rest : ∀ b, b ≤ z.length → ∀ y4 : Option U, (sSeq (sAsgL [(.nm 5), (.nm 6)] (cCall F [(cVar 0), (cVar 1), (cVar 2)]))
    (sSeq (sIf (bAnd (bOf (cBin (dEq false) (cVar 5) (cK (.str "bad")))) (bTru (cFun fIsi [(cVar 5), (cK (.ty "str"))]))) (sRet (cVal (cLst [(cVar 5), (cVar 6)]))) sNext)
    (sSeq (sMut 3 mApp [(cVar 5)] fun _ ρ S => .nx ρ S)
    (sSet 1 (cVar 6))))) [some (.v (.str z)), some (.v (.int (b : Int))), some (.v (.int (dp : Int))), some (.o found), y4, x5, x6] S = (match f b with
        | .ok d e => .nx [some (.v (.str z)), some (.v (.int (e : Int))), some (.v (.int (dp : Int))), some (.o (found ++ [d])), y4, some (.v d), some (.v (.int (e : Int)))] S
        | .bad e => .rt (.v (lawR (.bad e))) S) := fun b hb y4 => by
    have hR := R S b hb
    cases hf : f b with
    | ok d e =>
      rw [hf] at hR
      have hR : F [.v (.str z), .v (.int (b : Int)), .v (.int (dp : Int))] S = .ok (.v (.lst [d, .int (e : Int)])) S := hR
      have hd := eq_bad S (by decide : 60 ≤ 64) (hok _ _ _ hf)
      simp [sSeq, sIf, sSet, setU, cVar, cK, cBin, cFun, fLen, fTup, evL, bAnd, bNot, bTru, bTruR, dTru, asL, asQ, bOf, bRes, dCmpI, dAdd, opt, Res.bind, Res.st, notO, sNext, sRet, retR, cVal, cLst, lstR, pures, fin, pSm, pIntR, cSl, slS, sAsgL, asgLR, cCall, callR, hR, putAll, Tgt.put, hd, sMut, mutR, mApp, hfl]
    | bad e =>
      rw [hf] at hR
      have hR : F [.v (.str z), .v (.int (b : Int)), .v (.int (dp : Int))] S = .ok (.v (.lst [.str "bad", .int (e : Int)])) S := hR
      simp [sSeq, sIf, sSet, setU, cVar, cK, cBin, cFun, fLen, fTup, evL, bAnd, bNot, bTru, bTruR, dTru, asL, asQ, bOf, bRes, dCmpI, dAdd, opt, Res.bind, Res.st, notO, sNext, sRet, retR, cVal, cLst, lstR, pures, fin, pSm, pIntR, cSl, slS, sAsgL, asgLR, cCall, callR, hR, putAll, Tgt.put, bb, fIsi, tyU, tyD, kb, lawR]
  unfold c_ents
  generalize (sSeq (sAsgL [(.nm 5), (.nm 6)] (cCall F [(cVar 0), (cVar 1), (cVar 2)]))
    (sSeq (sIf (bAnd (bOf (cBin (dEq false) (cVar 5) (cK (.str "bad")))) (bTru (cFun fIsi [(cVar 5), (cK (.ty "str"))]))) (sRet (cVal (cLst [(cVar 5), (cVar 6)]))) sNext)
    (sSeq (sMut 3 mApp [(cVar 5)] fun _ ρ S => .nx ρ S)
    (sSet 1 (cVar 6))))) = cR at rest ⊢
  cases hp : isA z a (one 41) with
  | true => simp [sSeq, sIf, sSet, setU, cVar, cK, cBin, cFun, fLen, fTup, evL, bAnd, bNot, bTru, bTruR, dTru, asL, asQ, bOf, bRes, dCmpI, dAdd, opt, Res.bind, Res.st, notO, sNext, sRet, retR, cVal, cLst, lstR, pures, fin, pSm, pIntR, cSl, slS, hs, cut_one, e41, eq_sg hz, hp, lawR]
  | false =>
    cases hfo : found.isEmpty with
    | true =>
      have r := rest a ha x4
      simp [sSeq, sIf, sSet, setU, cVar, cK, cBin, cFun, fLen, fTup, evL, bAnd, bNot, bTru, bTruR, dTru, asL, asQ, bOf, bRes, dCmpI, dAdd, opt, Res.bind, Res.st, notO, sNext, sRet, retR, cVal, cLst, lstR, pures, fin, pSm, pIntR, cSl, slS, hs, cut_one, e41, eq_sg hz, hp, hfo, r]
    | false =>
      cases hsp : isA z a (one 32) with
      | false => simp [sSeq, sIf, sSet, setU, cVar, cK, cBin, cFun, fLen, fTup, evL, bAnd, bNot, bTru, bTruR, dTru, asL, asQ, bOf, bRes, dCmpI, dAdd, opt, Res.bind, Res.st, notO, sNext, sRet, retR, cVal, cLst, lstR, pures, fin, pSm, pIntR, cSl, slS, hs, cut_one, e41, e32, eq_sg hz, hp, hfo, hsp, lawR]
      | true =>
        have lt := isA_lt hsp
        have r := rest (a + 1) (by omega) x4
        have ca : ((a + 1 : Nat) : Int) = (a : Int) + 1 := by omega
        rw [ca] at r
        simp [sSeq, sIf, sSet, setU, cVar, cK, cBin, cFun, fLen, fTup, evL, bAnd, bNot, bTru, bTruR, dTru, asL, asQ, bOf, bRes, dCmpI, dAdd, opt, Res.bind, Res.st, notO, sNext, sRet, retR, cVal, cLst, lstR, pures, fin, pSm, pIntR, cSl, slS, hs, cut_one, e41, e32, eq_sg hz, hp, hfo, hsp, r]
theorem ents_loop (hz : okT z) {F : CF} {dp : Nat} {f : Nat → Out} (R : Ld z F dp f) (Fw : Fwd z f) (hok : ∀ a d e, f a = .ok d e → okD 60 d) : ∀ (ds : List D) (a : Nat) (found : List D) (x4 x5 x6 : Option U) (S : List Box), a ≤ z.length → found.length + z.length ≤ a + 1000000 →
    fin (thn2 (forF (.nm 4) (c_ents F) ds [some (.v (.str z)), some (.v (.int (a : Int))), some (.v (.int (dp : Int))), some (.o found), x4, x5, x6] S) c_lbad) = .ok (.v (lawR (rdL z f ds.length a found))) S
  | [], a, found, x4, x5, x6, S, ha, hl => by
    simp [forF, thn2, c_lbad, sSeq, sIf, sSet, setU, cVar, cK, cBin, cFun, fLen, fTup, evL, bAnd, bNot, bTru, bTruR, dTru, asL, asQ, bOf, bRes, dCmpI, dAdd, opt, Res.bind, Res.st, notO, sNext, sRet, retR, cVal, cLst, lstR, pures, fin, pSm, pIntR, cSl, slS, rdL, lawR]
  | d :: ds, a, found, x4, x5, x6, S, ha, hl => by
    have hfl : found.length < sizeLine := by
      have := hz.1
      have h16 : sizeLine = 16777216 := sizeLine_eq
      omega
    have st := ents_step (S := S) hz R hok found hfl (some (.v d)) x5 x6 ha
    unfold forF
    have hp : Tgt.put (.nm 4) d [some (.v (.str z)), some (.v (.int (a : Int))), some (.v (.int (dp : Int))), some (.o found), x4, x5, x6] = some [some (.v (.str z)), some (.v (.int (a : Int))), some (.v (.int (dp : Int))), some (.o found), some (.v d), x5, x6] := rfl
    rw [hp]
    dsimp only
    rw [st, List.length_cons]
    unfold rdL
    by_cases h1 : isA z a ")" = true
    · rw [if_pos h1, if_pos h1]
      rfl
    · rw [if_neg h1, if_neg h1]
      by_cases h2 : (!found.isEmpty && !isA z a " ") = true
      · rw [if_pos h2, if_pos h2]
        rfl
      · rw [if_neg h2, if_neg h2]
        generalize hbb : (if found.isEmpty = true then a else a + 1) = b
        have hab : a ≤ b := by rw [← hbb]; split <;> omega
        cases hf : f b with
        | bad e => rfl
        | ok d1 e1 =>
          have hfw := Fw _ _ _ hf
          exact ents_loop hz R Fw hok ds e1 (found ++ [d1]) (some (.v d)) (some (.v d1)) (some (.v (.int (e1 : Int)))) S hfw.2 (by rw [List.length_append, List.length_singleton]; omega)
theorem FLE_eq (hz : okT z) {n dp : Nat} {f : Nat → Out} (R : Ld z (FLR n) dp f) (Fw : Fwd z f) (hok : ∀ a d e, f a = .ok d e → okD 60 d) (S : List Box) (ha : a ≤ z.length) :
    FLE (n + 1) [.v (.str z), .v (.int (a : Int)), .v (.int (dp : Int))] S = .ok (.v (lawR (rdL z f (z.length + 1) a []))) S := by
  have hs := hz.size
  have h1 := hz.1
  have l := ents_loop hz R Fw hok (rngD 0 (z.length + 1)) a [] none none none S ha (by simp; omega)
  rw [len_rng] at l
  unfold FLE
  show fin (c_law_entries (FLR n) [some (.v (.str z)), some (.v (.int (a : Int))), some (.v (.int (dp : Int))), none, none, none, none] S) = _
  rw [ents_split, ← l]
  have hr : cRng1 [(cBin dAdd (cFun fLen [(cVar 0)]) (cK (.int 1)))] [some (.v (.str z)), some (.v (.int (a : Int))), some (.v (.int (dp : Int))), some (.o []), none, none, none] S = .ok (rngD 0 (z.length + 1)) S := by
    simp [cRng1, evL, cBin, dAdd, cK, cFun, fLen, cVar, hs, Res.bind, opt, itR1]
    omega
  generalize c_ents (FLR n) = cE
  generalize c_lbad = cB
  show fin (thn2 ((sFor (cRng1 [(cBin dAdd (cFun fLen [(cVar 0)]) (cK (.int 1)))]) (.nm 4) cE) [some (.v (.str z)), some (.v (.int (a : Int))), some (.v (.int (dp : Int))), some (.o []), none, none, none] S) cB) = _
  unfold sFor
  rw [hr]
  rfl
end
end Rn
set_option Elab.async false
set_option linter.all false
set_option maxRecDepth 100000
set_option maxHeartbeats 8000000
namespace Rn
open PySem L2 PyProof.Rows
def c_word : CS := (sIf (bAnd (bOf (cBin (dCmpI fun i j => decide (i < j)) (cVar 4) (cFun fLen [(cVar 0)]))) (bOf (cBin (dInS false) (cBin dIx (cVar 0) (cVar 4)) (cK (.str "abcdefghijklmnopqrstuvwxyz"))))) (sSet 4 (cBin dAdd (cVar 4) (cK (.int 1)))) sNext)
def c_wret : CS := (sRet (cVal (cLst [(cIf (bOf (cBin (dEq false) (cSl slS (cVar 0) (pSm (cVar 1)) (pSm (cVar 4))) (cK (.str "none")))) (cK .non) (cSl slS (cVar 0) (pSm (cVar 1)) (pSm (cVar 4)))), (cVar 4)])))
def c_wrd : CS := (sSeq (sSet 4 (cVar 1)) (sSeq (sFor (cRng1 [(cFun fLen [(cVar 0)])]) (.nm 5) c_word) c_wret))
theorem read_split (E I : CF) : c_law_read E I = (sSeq (sSet 3 (cSl slS (cVar 0) (pSm (cVar 1)) (pSm (cBin dAdd (cVar 1) (cK (.int 1))))))
    (sSeq (sIf (bOf (cBin (dEq false) (cVar 3) (cK (.str "(")))) (sSeq (sIf (bOf (cBin (dEq false) (cVar 2) (cK (.int 24)))) (sRet (cVal (cLst [(cK (.str "bad")), (cVar 1)]))) sNext)
    (sRet (cCall E [(cVar 0), (cBin dAdd (cVar 1) (cK (.int 1))), (cBin dAdd (cVar 2) (cK (.int 1)))]))) sNext)
    (sSeq (sIf (bOf (cBin (dEq false) (cVar 3) (cK (.str ".")))) (sRet (cVal (cLst [(cK (.str "")), (cBin dAdd (cVar 1) (cK (.int 1)))]))) sNext)
    (sSeq (sIf (bAnd (bOf (cBin (dEq true) (cVar 3) (cK (.str "")))) (bOf (cBin (dInS false) (cVar 3) (cK (.str "abcdefghijklmnopqrstuvwxyz"))))) c_wrd sNext)
    (sRet (cCall I [(cVar 0), (cVar 1)])))))) := rfl
section
variable {S : List Box} {a : Nat} {z : Str}
theorem word_step (hz : okT z) (u1 u2 u3 : U) (a : Nat) (x : Option U) (S : List Box) : c_word [some (.v (.str z)), some u1, some u2, some u3, some (.v (.int (a : Int))), x] S =
    .nx [some (.v (.str z)), some u1, some u2, some u3, some (.v (.int ((if isA z a sml = true then a + 1 else a : Nat) : Int))), x] S := by
  have hs := hz.size
  have ed : (Str.ofString "abcdefghijklmnopqrstuvwxyz" : Str) = sml := rfl
  unfold c_word
  by_cases h : a < z.length
  · cases hi : isA z a sml with
    | true => simp [sSeq, sIf, sSet, setU, cVar, cK, cBin, cFun, fLen, evL, bAnd, bNot, bOf, bRes, dCmpI, dAdd, opt, Res.bind, Res.st, notO, sNext, sRet, retR, cVal, cLst, lstR, pures, fin, pSm, pIntR, cSl, slS, cIf, hs, lt_dec, h, ix_sg S hz h, in_sg S _ _ h, ed, hi]
    | false => simp [sSeq, sIf, sSet, setU, cVar, cK, cBin, cFun, fLen, evL, bAnd, bNot, bOf, bRes, dCmpI, dAdd, opt, Res.bind, Res.st, notO, sNext, sRet, retR, cVal, cLst, lstR, pures, fin, pSm, pIntR, cSl, slS, cIf, hs, lt_dec, h, ix_sg S hz h, in_sg S _ _ h, ed, hi]
  · have hi : isA z a sml = false := by
      cases q : isA z a sml with
      | true => exact absurd (isA_lt q) h
      | false => rfl
    simp [sSeq, sIf, sSet, setU, cVar, cK, cBin, cFun, fLen, evL, bAnd, bNot, bOf, bRes, dCmpI, dAdd, opt, Res.bind, Res.st, notO, sNext, sRet, retR, cVal, cLst, lstR, pures, fin, pSm, pIntR, cSl, slS, cIf, hs, lt_dec, h, hi]
theorem wrd_eq (hz : okT z) (ha : a ≤ z.length) (u2 u3 : U) (S : List Box) : fin (c_wrd [some (.v (.str z)), some (.v (.int (a : Int))), some u2, some u3, none, none] S) =
    .ok (.v (lawR (.ok (if (mid z a (endW z a sml) == "none") = true then .non else .str (mid z a (endW z a sml))) (endW z a sml)))) S := by
  have hs := hz.size
  obtain ⟨x', e⟩ := run_loop hz sml 5 (fun b x => [some (.v (.str z)), some (.v (.int (a : Int))), some u2, some u3, some (.v (.int (b : Int))), x]) c_word (fun b x S => word_step hz _ _ _ b x S) (fun b x d => rfl) (rngD 0 z.length) a none S ha
  have hle := endW_le (j := sml) ha
  have hm : min (a + (rngD 0 z.length).length) (endW z a sml) = endW z a sml := by
    rw [len_rng]
    omega
  rw [hm] at e
  have hr := rng_len (z := z) S hz [some (.v (.str z)), some (.v (.int (a : Int))), some u2, some u3, some (.v (.int (a : Int))), none] rfl
  have o1 := mid_ok hz a (endW z a sml)
  have o2 : PyData.strOk ("none" : Str) = true := by decide +kernel
  have r : fin (c_wret [some (.v (.str z)), some (.v (.int (a : Int))), some u2, some u3, some (.v (.int (endW z a sml : Int))), x'] S) = .ok (.v (lawR (.ok (if (mid z a (endW z a sml) == "none") = true then .non else .str (mid z a (endW z a sml))) (endW z a sml)))) S := by
    unfold c_wret
    cases hq : (mid z a (endW z a sml) == ("none" : Str)) with
    | true => simp [sSeq, sIf, sSet, setU, cVar, cK, cBin, cFun, fLen, evL, bAnd, bNot, bOf, bRes, dCmpI, dAdd, opt, Res.bind, Res.st, notO, sNext, sRet, retR, cVal, cLst, lstR, pures, fin, pSm, pIntR, cSl, slS, cIf, hs, cut_mid, ha, hle, eq_str, o1, o2, hq, lawR]
    | false => simp [sSeq, sIf, sSet, setU, cVar, cK, cBin, cFun, fLen, evL, bAnd, bNot, bOf, bRes, dCmpI, dAdd, opt, Res.bind, Res.st, notO, sNext, sRet, retR, cVal, cLst, lstR, pures, fin, pSm, pIntR, cSl, slS, cIf, hs, cut_mid, ha, hle, eq_str, o1, o2, hq, lawR]
  rw [← r]
  unfold c_wrd
  generalize c_wret = cR
  show fin (thn2 ((sFor (cRng1 [(cFun fLen [(cVar 0)])]) (.nm 5) c_word) [some (.v (.str z)), some (.v (.int (a : Int))), some u2, some u3, some (.v (.int (a : Int))), none] S) cR) = _
  unfold sFor
  rw [hr]
  show fin (thn2 (forF (.nm 5) c_word (rngD 0 z.length) [some (.v (.str z)), some (.v (.int (a : Int))), some u2, some u3, some (.v (.int (a : Int))), none] S) cR) = _
  rw [e]
  rfl
theorem fin_rt {r : Rs} {d : D} {e : Nat} {S : List Box} (h : fin r = .ok (.v (lawR (.ok d e))) S) : r = .rt (.v (.lst [d, .int (e : Int)])) S := by
  cases r with
  | rt u T => cases h; rfl
  | nx ρ T => cases h
  | bk ρ T => cases h
  | ct ρ T => cases h
  | ex x ρ T => cases h
  | no => cases h
theorem LR_eq (hz : okT z) (nb : nobad z) : ∀ r n, r ≤ 24 → 2 * r + 1 ≤ n → Ld z (FLR n) (24 - r) (rdT z r)
  | r, 0, h1, h2 => by omega
  | r, n + 1, h1, h2 => by
    intro S a ha
    have hs := hz.size
    have e40 : (Str.ofString "(" : Str) = one 40 := rfl
    have e46 : (Str.ofString "." : Str) = one 46 := rfl
    have e0 : (Str.ofString "" : Str) = emp := rfl
    have es : (Str.ofString "abcdefghijklmnopqrstuvwxyz" : Str) = sml := rfl
    have z40 : isA z a (Str.ofString "(") = isA z a (one 40) := rfl
    have z46 : isA z a (Str.ofString ".") = isA z a (one 46) := rfl
    unfold FLR
    show fin (c_law_read (FLE n) Fli [some (.v (.str z)), some (.v (.int (a : Int))), some (.v (.int ((24 - r : Nat) : Int))), none, none, none] S) = _
    rw [read_split]
    cases hp : isA z a (one 40) with
    | true =>
      have lt := isA_lt hp
      cases r with
      | zero =>
        have q : rdT z 0 a = .bad a := by unfold rdT; rw [z40, hp]; rfl
        rw [q]
        simp [sSeq, sIf, sSet, setU, cVar, cK, cBin, cFun, fLen, evL, bAnd, bNot, bOf, bRes, dCmpI, dAdd, opt, Res.bind, Res.st, notO, sNext, sRet, retR, cVal, cLst, lstR, pures, fin, pSm, pIntR, cSl, slS, cIf, hs, cut_one, e40, eq_sg hz, hp, eq_int, lawR]
      | succ r =>
        cases n with
        | zero => omega
        | succ n =>
          have R := LR_eq hz nb r n (by omega) (by omega)
          have q : rdT z (r + 1) a = rdL z (rdT z r) (z.length + 1) (a + 1) [] := by rw [rdT, z40, hp]; rfl
          have h := FLE_eq hz R (rdT_fwd r) (fun b d e hb => ?_) S (show a + 1 ≤ z.length by omega)
          · have hd : ((24 - (r + 1) : Nat) : Int) + 1 = ((24 - r : Nat) : Int) := by omega
            have hne : ((24 - (r + 1) : Nat) : Int) ≠ 24 := by omega
            have ca : ((a + 1 : Nat) : Int) = (a : Int) + 1 := by omega
            rw [← hd, ca] at h
            rw [q]
            generalize ((24 - (r + 1) : Nat) : Int) = dp at hd hne h ⊢
            have hne2 : (dp == 24) = false := beq_eq_false_iff_ne.mpr hne
            simp [sSeq, sIf, sSet, setU, cVar, cK, cBin, cFun, fLen, evL, bAnd, bNot, bOf, bRes, dCmpI, dAdd, opt, Res.bind, Res.st, notO, sNext, sRet, retR, cVal, cLst, lstR, pures, fin, pSm, pIntR, cSl, slS, cIf, hs, cut_one, e40, eq_sg hz, hp, eq_int, hne2, cCall, callR, h]
          · have ok := rdT_ok hz nb r b d e hb
            have up : ∀ j, okD (r + 1 + j) d := fun j => by
              induction j with
              | zero => exact ok
              | succ j ih => exact okD_up ih
            have e60 : r + 1 + (59 - r) = 60 := by omega
            rw [← e60]
            exact up _
    | false =>
      have q : rdT z r a = (if isA z a "." = true then .ok (.str emp) (a + 1)
          else if isA z a sml = true then .ok (if (mid z a (endW z a sml) == "none") = true then .non else .str (mid z a (endW z a sml))) (endW z a sml) else rdInt z a) := by
        cases r with
        | zero => rw [rdT, z40, hp]; rfl
        | succ r => rw [rdT, z40, hp]; rfl
      rw [q, z46]
      cases hd : isA z a (one 46) with
      | true => simp [sSeq, sIf, sSet, setU, cVar, cK, cBin, cFun, fLen, evL, bAnd, bNot, bOf, bRes, dCmpI, dAdd, opt, Res.bind, Res.st, notO, sNext, sRet, retR, cVal, cLst, lstR, pures, fin, pSm, pIntR, cSl, slS, cIf, hs, cut_one, e40, e46, e0, eq_sg hz, hp, hd, lawR]
      | false =>
        cases hw : isA z a sml with
        | true =>
          have lt := isA_lt hw
          have w := wrd_eq hz ha (.v (.int ((24 - r : Nat) : Int))) (.v (.str (sg z a))) S
          have nl : decide (z.length ≤ a) = false := decide_eq_false (by omega)
          generalize c_wrd = cW at w ⊢
          generalize ((24 - r : Nat) : Int) = dp at w ⊢
          have w := fin_rt w
          simp [sSeq, sIf, sSet, setU, cVar, cK, cBin, cFun, fLen, evL, bAnd, bNot, bOf, bRes, dCmpI, dAdd, opt, Res.bind, Res.st, notO, sNext, sRet, retR, cVal, cLst, lstR, pures, fin, pSm, pIntR, cSl, slS, cIf, hs, cut_one, e40, e46, e0, es, eq_sg hz, eq_sg0 hz, nl, in_sg S _ _ lt, hp, hd, hw, w, lawR]
        | false =>
          have li := li_eq hz ha S
          by_cases lt : a < z.length
          · have nl : decide (z.length ≤ a) = false := decide_eq_false (by omega)
            simp [sSeq, sIf, sSet, setU, cVar, cK, cBin, cFun, fLen, evL, bAnd, bNot, bOf, bRes, dCmpI, dAdd, opt, Res.bind, Res.st, notO, sNext, sRet, retR, cVal, cLst, lstR, pures, fin, pSm, pIntR, cSl, slS, cIf, hs, cut_one, e40, e46, e0, es, eq_sg hz, eq_sg0 hz, nl, in_sg S _ _ lt, hp, hd, hw, cCall, callR, li]
          · have nl : decide (z.length ≤ a) = true := decide_eq_true (by omega)
            simp [sSeq, sIf, sSet, setU, cVar, cK, cBin, cFun, fLen, evL, bAnd, bNot, bOf, bRes, dCmpI, dAdd, opt, Res.bind, Res.st, notO, sNext, sRet, retR, cVal, cLst, lstR, pures, fin, pSm, pIntR, cSl, slS, cIf, hs, cut_one, e40, e46, e0, es, eq_sg hz, eq_sg0 hz, nl, hp, hd, hw, cCall, callR, li]
end
end Rn
set_option Elab.async false
set_option linter.all false
set_option maxRecDepth 100000
set_option maxHeartbeats 8000000
namespace Rn
open PySem L2 PyProof.Rows
/-! ## how long the repr of what was read can be -/
mutual
def shl : D → Nat
  | .non => 4
  | .int _ => 22
  | .str x => 10 * x.length + 2
  | .tup xs => 3 + shlL xs
  | _ => 0
def shlL : List D → Nat
  | [] => 0
  | d :: ds => shl d + 2 + shlL ds
end
theorem shlL_app : ∀ (xs ys : List D), shlL (xs ++ ys) = shlL xs + shlL ys
  | [], ys => by simp [shlL]
  | x :: xs, ys => by rw [List.cons_append, shlL, shlL, shlL_app xs ys]; omega
theorem tup_len (ts : List Str) : (tupleText ts).length ≤ 3 + piled ts := by
  have e1 : ((Str.ofString "(") : Str).length = 1 := rfl
  unfold tupleText
  rw [strLen_append, strLen_append]
  by_cases h : ts = []
  · subst h
    decide +kernel
  · have := join_length_add ts h
    have e2 : ((if (ts.length == 1) = true then ",)" else ")" : String) : Str).length ≤ 2 := by split <;> decide +kernel
    have e3 : (("(" : Str)).length = 1 := rfl
    omega
mutual
theorem shown_le : ∀ {n : Nat} {d : D} {p : PyData}, okD n d → toPy d = some p → p.shown.length ≤ shl d ∧ p.showable = true
  | _, .non, _, _, h => by cases h; exact ⟨by decide +kernel, rfl⟩
  | n, .int i, _, hk, h => by
    cases h
    have h21 := okD_int.mp hk
    have h1 := int_text_length_le10 (a := i) (k := 21) (by decide) h21
    refine ⟨?_, decide_eq_true ?_⟩
    · show (Str.ofString (toString i)).length ≤ 22
      rw [PySem.ofString_length]
      exact h1
    · have h2 : i.natAbs < 2 ^ 1920 := Nat.lt_of_lt_of_le h21 (by decide +kernel)
      by_cases h0 : i.natAbs = 0
      · rw [h0]; decide
      · exact (Nat.log2_lt h0).mpr h2
  | n, .str x, _, hk, h => by
    cases h
    have h1 := okD_str.mp hk
    refine ⟨StrLaws.reprText_len x fun c hc => ?_, rfl⟩
    have h2 := h1.1
    unfold PyData.strOk at h2
    rw [Array.all_eq_true_iff_forall_mem] at h2
    have h3 := of_decide_eq_true (h2 c (Array.mem_toList_iff.mp hc))
    omega
  | n + 1, .tup xs, p, hk, h => by
    have h : (toPyL xs).map PyData.tuple = some p := h
    cases q : toPyL xs with
    | none => rw [q] at h; cases h
    | some ps =>
      rw [q] at h
      cases h
      obtain ⟨g1, g2⟩ := shown_leL (n := n) hk q
      refine ⟨?_, g2⟩
      have := tup_len (PyData.shownAll ps)
      simp only [PyData.shown, shl]
      omega
  | 0, .tup xs, _, hk, _ => hk.elim
  | n, .bl _, _, hk, _ => by cases n <;> exact hk.elim
  | n, .lst _, _, hk, _ => by cases n <;> exact hk.elim
  | n, .con _, _, hk, _ => by cases n <;> exact hk.elim
  | n, .ty _, _, hk, _ => by cases n <;> exact hk.elim
  | n, .fn _, _, hk, _ => by cases n <;> exact hk.elim
theorem shown_leL : ∀ {n : Nat} {xs : List D} {ps : List PyData}, (∀ d ∈ xs, okD n d) → toPyL xs = some ps → piled (PyData.shownAll ps) ≤ shlL xs ∧ PyData.showableAll ps = true
  | n, [], ps, _, h => by cases h; exact ⟨Nat.le_refl _, rfl⟩
  | n, d :: ds, ps, hk, h => by
    have h : (match toPy d, toPyL ds with | some e, some es => some (e :: es) | _, _ => none) = some ps := h
    cases q1 : toPy d with
    | none => rw [q1] at h; cases h
    | some e1 =>
      cases q2 : toPyL ds with
      | none => rw [q1, q2] at h; cases h
      | some e2 =>
        rw [q1, q2] at h
        cases h
        obtain ⟨a1, a2⟩ := shown_le (hk d List.mem_cons_self) q1
        obtain ⟨b1, b2⟩ := shown_leL (n := n) (fun e he => hk e (List.mem_cons_of_mem _ he)) q2
        refine ⟨?_, ?_⟩
        · simp only [PyData.shownAll, piled, shlL, List.map_cons, List.sum_cons] at b1 ⊢
          omega
        · show (e1.showable && PyData.showableAll e2) = true
          rw [a2, b2]; rfl
end
section
variable {S : List Box} {a : Nat} {z : Str}
theorem int_sz {d : D} {e : Nat} (h : rdInt z a = .ok d e) : shl d + 2 ≤ 30 * (e - a) := by
  have hf := int_fwd h
  have hd : shl d = 22 := by
    have k1 : ∀ m b, rdInt1 z m b = .ok d e → shl d = 22 := fun m b h => by
      unfold rdInt1 at h
      split at h
      · cases h
      · split at h
        · cases h
        · split at h
          · cases h
          · injection h with h2 h3
            rw [← h2]; rfl
    unfold rdInt at h
    split at h
    · exact k1 _ _ h
    · exact k1 _ _ h
  omega
theorem rdL_sz {f : Nat → Out} (Fw : Fwd z f) (F : ∀ a d e, f a = .ok d e → shl d + 2 ≤ 30 * (e - a)) : ∀ m a s found d e, s ≤ a → shlL found ≤ 30 * (a - s) → rdL z f m a found = .ok d e → shl d + 2 ≤ 30 * (e - s) + 30
  | 0, a, s, found, d, e, _, _, h => by cases h
  | m + 1, a, s, found, d, e, hs, hf, h => by
    unfold rdL at h
    split at h
    · injection h with h2 h3
      rw [← h2]
      show 3 + shlL found + 2 ≤ _
      omega
    · split at h
      · cases h
      · split at h
        · rename_i d1 e1 h1
          have g1 := F _ _ _ h1
          have g2 := Fw _ _ _ h1
          refine rdL_sz Fw F m e1 s _ d e ?_ ?_ h
          · split at g2 <;> omega
          · rw [shlL_app, shlL, shlL]
            split at g1 <;> split at g2 <;> omega
        · cases h
theorem word_sz (h : isA z a sml = true) : shl (if (mid z a (endW z a sml) == "none") = true then .non else .str (mid z a (endW z a sml))) + 2 ≤ 30 * (endW z a sml - a) := by
  have w := word_fwd h
  split
  · show 4 + 2 ≤ _; omega
  · show 10 * (mid z a (endW z a sml)).length + 2 + 2 ≤ _
    rw [mid_len (z := z) (j := sml) (a := a) rfl w.2]
    omega
theorem rdT_sz : ∀ r a d e, rdT z r a = .ok d e → shl d + 2 ≤ 30 * (e - a)
  | 0, a, d, e, h => by
    unfold rdT at h
    split at h
    · cases h
    · split at h
      · injection h with h2 h3
        rw [← h2, ← h3]
        show 10 * emp.length + 2 + 2 ≤ _
        have : emp.length = 0 := rfl
        omega
      · split at h
        · rename_i hw
          injection h with h2 h3
          rw [← h2, ← h3]
          exact word_sz hw
        · exact int_sz h
  | r + 1, a, d, e, h => by
    unfold rdT at h
    split at h
    · have g := rdL_sz (rdT_fwd r) (rdT_sz r) _ (a + 1) (a + 1) [] d e (Nat.le_refl _) (Nat.zero_le _) h
      have g2 := rdL_fwd (rdT_fwd r) _ _ _ _ _ h
      omega
    · split at h
      · injection h with h2 h3
        rw [← h2, ← h3]
        show 10 * emp.length + 2 + 2 ≤ _
        have : emp.length = 0 := rfl
        omega
      · split at h
        · rename_i hw
          injection h with h2 h3
          rw [← h2, ← h3]
          exact word_sz hw
        · exact int_sz h
end
end Rn
set_option Elab.async false
set_option linter.all false
set_option maxRecDepth 100000
set_option maxHeartbeats 8000000
namespace Rn
open PySem L2 PyProof.Rows
/-- a text that the law asks about -/
structure okZ (z : Str) : Prop where
  t : okT z
  nb : nobad z
  n : z.length ≤ 100000
def Fdu (n : Nat) : CF := runF (n__law_due : List Str).length (c_law_due (FLR n))
section
variable {z : Str}
theorem okD_to {n m : Nat} {d : D} (h : okD n d) (hm : n ≤ m) : okD m d := by
  have up : ∀ j, okD (n + j) d := fun j => by
    induction j with
    | zero => exact h
    | succ j ih => exact okD_up ih
  have e : n + (m - n) = m := by omega
  rw [← e]
  exact up _
theorem isi_str {n : Nat} {d : D} (h : okD n d) (S : List Box) : ∃ b, fIsi [.v d, .v (.ty "str")] S = some (.bl b) := by
  have k1 : kitB "str" "str" = some true := by decide +kernel
  have k2 : kitB "NoneType" "str" = some false := by decide +kernel
  have k3 : kitB "int" "str" = some false := by decide +kernel
  have k4 : kitB "tuple" "str" = some false := by decide +kernel
  cases d with
  | str x => exact ⟨true, by simp [fIsi, tyU, tyD, k1]⟩
  | non => exact ⟨false, by simp [fIsi, tyU, tyD, k2]⟩
  | int i => exact ⟨false, by simp [fIsi, tyU, tyD, k3]⟩
  | tup xs => exact ⟨false, by simp [fIsi, tyU, tyD, k4]⟩
  | bl _ => cases n <;> exact h.elim
  | lst _ => cases n <;> exact h.elim
  | con _ => cases n <;> exact h.elim
  | ty _ => cases n <;> exact h.elim
  | fn _ => cases n <;> exact h.elim
theorem du_eq (hz : okZ z) (n : Nat) (hn : 49 ≤ n) (S : List Box) : Fdu n [.v (.str z)] S = .ok (.v (toldD z)) S := by
  have hs := hz.t.size
  have k1 : kitB "str" "str" = some true := by decide +kernel
  have bb : dEq false (.v (.str "bad")) (.v (.str "bad")) S = some (.bl true) := by
    rw [eq_str]
    rfl
  have l := LR_eq hz.t hz.nb 24 n (Nat.le_refl _) hn S 0 (Nat.zero_le _)
  have l : FLR n [.v (.str z), .v (.int 0), .v (.int 0)] S = .ok (.v (lawR (rdT z 24 0))) S := l
  unfold toldD outRd
  cases ho : rdT z 24 0 with
  | bad e =>
    rw [ho] at l
    have l : FLR n [.v (.str z), .v (.int 0), .v (.int 0)] S = .ok (.v (.lst [.str "bad", .int (e : Int)])) S := l
    simp [Fdu, runF, c_law_due, sSeq, sAsgL, asgLR, cCall, evL, cVar, cK, callR, notO, Res.bind, Res.st, l, asL, putAll, Tgt.put, sIf, bAnd, bTru, bTruR, dTru, cFun, fIsi, tyU, tyD, k1, opt, bOf, bRes, cBin, bb, sRet, retR, cVal, cLst, lstR, pures]
  | ok d e =>
    rw [ho] at l
    have l : FLR n [.v (.str z), .v (.int 0), .v (.int 0)] S = .ok (.v (.lst [d, .int (e : Int)])) S := l
    have hd := rdT_ok hz.t hz.nb 24 0 d e ho
    have be := eq_bad S (by decide : 25 ≤ 64) hd
    obtain ⟨b, hb⟩ := isi_str hd S
    have c1 : decide ((e : Int) < (z.length : Int)) = decide (e < z.length) := by congr 1; exact propext (by omega)
    by_cases hl : e < z.length
    · cases b <;> simp [Fdu, runF, c_law_due, sSeq, sAsgL, asgLR, cCall, evL, cVar, cK, callR, notO, Res.bind, Res.st, l, asL, putAll, Tgt.put, sIf, bAnd, bTru, bTruR, dTru, cFun, hb, opt, bOf, bRes, cBin, be, sRet, retR, cVal, cLst, lstR, pures, sNext, cIf, dCmpI, fLen, hs, c1, hl]
    · cases b <;> simp [Fdu, runF, c_law_due, sSeq, sAsgL, asgLR, cCall, evL, cVar, cK, callR, notO, Res.bind, Res.st, l, asL, putAll, Tgt.put, sIf, bAnd, bTru, bTruR, dTru, cFun, hb, opt, bOf, bRes, cBin, be, sRet, retR, cVal, cLst, lstR, pures, sNext, cIf, dCmpI, fLen, hs, c1, hl]
/-! ## its repr -/
theorem list2_len (a b : Str) : (listText [a, b]).length = a.length + b.length + 4 := by
  unfold listText
  show ((("[" : Str) ++ (if 0 > 0 then ", " else "" : String) ++ a ++ (if 0 + 1 > 0 then ", " else "" : String) ++ b) ++ ("]" : Str)).length = _
  rw [strLen_append, strLen_append, strLen_append, strLen_append, strLen_append]
  have e1 : (("[" : Str)).length = 1 := rfl
  have e2 : (("]" : Str)).length = 1 := rfl
  have e3 : ((if 0 > 0 then ", " else "" : String) : Str).length = 0 := rfl
  have e4 : ((if 0 + 1 > 0 then ", " else "" : String) : Str).length = 2 := rfl
  omega
/-- [tag, d] -/
theorem pair_py {n : Nat} (hn : n ≤ 100) {d : D} (h : okD n d) (hs : shl d ≤ 10000000) {tag : Str} (ht : tag.length ≤ 10) (hto : PyData.strOk tag = true) (S : List Box) :
    ∃ w, fRepr [.v (.lst [.str tag, d])] S = some (.str w) := by
  obtain ⟨p, h1, h2, h3⟩ := okD_py h
  obtain ⟨s1, s2⟩ := shown_le h h1
  have hu : uPy (.v (.lst [.str tag, d])) S = some (.list [.str tag, p]) := by
    show (toPyL [.str tag, d]).map PyData.list = _
    have : toPyL [.str tag, d] = some [.str tag, p] := by simp [toPyL, toPy, h1]
    rw [this]
    rfl
  have htl : (reprText tag).length ≤ 102 := by
    have := StrLaws.reprText_len tag fun c hc => by
      unfold PyData.strOk at hto
      rw [Array.all_eq_true_iff_forall_mem] at hto
      have h3 := of_decide_eq_true (hto c (Array.mem_toList_iff.mp hc))
      omega
    omega
  refine ⟨(PyData.list [.str tag, p]).shown, ?_⟩
  unfold fRepr
  dsimp only
  rw [hu, Option.bind_some, if_pos]
  refine ⟨?_, ⟨rfl, ?_⟩, ?_⟩
  · show (PyData.showable (.str tag) && (p.showable && true)) = true
    rw [s2]; rfl
  · simp only [PyData.depth, PyData.depthAll]
    omega
  · have e : (PyData.list [.str tag, p]).shown = listText [reprText tag, p.shown] := rfl
    rw [e, list2_len]
    have h16 : sizeLine = 16777216 := sizeLine_eq
    omega
theorem int_bad {a e : Nat} (ha : a ≤ z.length) (h : rdInt z a = .bad e) : e ≤ z.length + 21 := by
  have k1 : ∀ m b, b ≤ z.length → rdInt1 z m b = .bad e → e ≤ z.length + 21 := fun m b hb h => by
    unfold rdInt1 at h
    split at h
    · injection h with h; omega
    · split at h
      · injection h with h; omega
      · split at h
        · injection h with h; omega
        · cases h
  unfold rdInt at h
  split at h
  · rename_i hm
    have := isA_lt hm
    exact k1 _ _ (by omega) h
  · exact k1 _ _ ha h
theorem rdL_bad {f : Nat → Out} (Fw : Fwd z f) (F : ∀ a e, a ≤ z.length → f a = .bad e → e ≤ z.length + 21) : ∀ m a found e, a ≤ z.length → rdL z f m a found = .bad e → e ≤ z.length + 21
  | 0, a, found, e, ha, h => by injection h with h; omega
  | m + 1, a, found, e, ha, h => by
    unfold rdL at h
    split at h
    · cases h
    · split at h
      · injection h with h; omega
      · rename_i hb
        have hble : (if found.isEmpty = true then a else a + 1) ≤ z.length := by
          split
          · exact ha
          · rename_i hne
            have hsp : isA z a " " = true := by
              cases q : isA z a " " with
              | true => rfl
              | false =>
                rw [q] at hb
                cases q2 : found.isEmpty with
                | true => exact absurd q2 hne
                | false => rw [q2] at hb; exact absurd rfl hb
            have := isA_lt hsp
            omega
        split at h
        · rename_i d1 e1 h1
          exact rdL_bad Fw F m e1 _ e (Fw _ _ _ h1).2 h
        · rename_i e1 h1
          injection h with h
          rw [← h]
          exact F _ _ hble h1
theorem rdT_bad : ∀ r a e, a ≤ z.length → rdT z r a = .bad e → e ≤ z.length + 21
  | 0, a, e, ha, h => by
    unfold rdT at h
    split at h
    · injection h with h; omega
    · split at h
      · cases h
      · split at h
        · cases h
        · exact int_bad ha h
  | r + 1, a, e, ha, h => by
    unfold rdT at h
    split at h
    · rename_i hp
      have := isA_lt hp
      exact rdL_bad (rdT_fwd r) (rdT_bad r) _ _ _ e (by omega) h
    · split at h
      · cases h
      · split at h
        · cases h
        · exact int_bad ha h
theorem told_shape (hz : okZ z) : ∃ (tag : Str) (d : D), toldD z = .lst [.str tag, d] ∧ tag.length ≤ 10 ∧ PyData.strOk tag = true ∧ okD 60 d ∧ shl d ≤ 10000000 := by
  have hz1 := hz.n
  have b1 : ∀ e : Nat, e ≤ 200000 → ∃ (tag : Str) (d : D), D.lst [.str "bad", .int (e : Int)] = .lst [.str tag, d] ∧ tag.length ≤ 10 ∧ PyData.strOk tag = true ∧ okD 60 d ∧ shl d ≤ 10000000 := fun e h =>
    ⟨"bad", .int (e : Int), rfl, by decide +kernel, by decide +kernel, okD_int.mpr (by omega), (by decide : 22 ≤ 10000000)⟩
  unfold toldD outRd
  cases ho : rdT z 24 0 with
  | bad e => exact b1 e (by have := rdT_bad 24 0 e (Nat.zero_le _) ho; omega)
  | ok d e =>
    have hf := rdT_fwd 24 _ _ _ ho
    have hsz := rdT_sz 24 _ _ _ ho
    have hd := rdT_ok hz.t hz.nb 24 0 d e ho
    by_cases hl : e < z.length
    · dsimp only
      rw [if_pos hl]
      exact b1 e (by omega)
    · dsimp only
      rw [if_neg hl]
      exact ⟨"term", d, rfl, by decide +kernel, by decide +kernel, okD_to hd (by decide), by omega⟩
theorem told_repr (hz : okZ z) (S : List Box) : ∃ w, fRepr [.v (toldD z)] S = some (.str w) := by
  obtain ⟨tag, d, h1, h2, h3, h4, h5⟩ := told_shape hz
  rw [h1]
  exact pair_py (by decide : 60 ≤ 100) h4 h5 h2 h3 S
end
end Rn
set_option Elab.async false
set_option linter.all false
set_option maxRecDepth 100000
set_option maxHeartbeats 8000000
namespace Rn
open PySem L2 PyProof.Rows
/-! ## the texts of terms -/
def mk (l : List Nat) : Str := ⟨l.toArray⟩
theorem cs_mk (l : List Nat) : cs (mk l) = l := rfl
theorem mk_cs (x : Str) : mk (cs x) = x := by cases x; rfl
mutual
def tx : D → List Nat
  | .non => [110, 111, 110, 101]
  | .int i => cs (Str.ofString (toString i))
  | .str x => if cs x = [] then [46] else cs x
  | .tup xs => 40 :: (TL.joinL [32] (txs xs) ++ [41])
  | _ => []
def txs : List D → List (List Nat)
  | [] => []
  | d :: ds => tx d :: txs ds
end
/-- the terms that the law draws -/
def gT : Nat → D → Prop
  | _, .non => True
  | _, .int i => i.natAbs < 10 ^ 20
  | _, .str x => (∀ c ∈ cs x, c ∈ cs "abcnoze") ∧ (cs x).length ≤ 5 ∧ x ≠ "none"
  | n + 1, .tup xs => xs.length ≤ 3 ∧ ∀ d ∈ xs, gT n d
  | _, _ => False
theorem gT_int {n : Nat} {i : Int} : gT n (.int i) ↔ i.natAbs < 10 ^ 20 := by cases n <;> exact Iff.rfl
theorem gT_str {n : Nat} {x : Str} : gT n (.str x) ↔ ((∀ c ∈ cs x, c ∈ cs "abcnoze") ∧ (cs x).length ≤ 5 ∧ x ≠ "none") := by cases n <;> exact Iff.rfl
theorem txs_len : ∀ xs : List D, (txs xs).length = xs.length
  | [] => rfl
  | d :: ds => by rw [txs, List.length_cons, List.length_cons, txs_len ds]
def bnd : Nat → Nat
  | 0 => 21
  | n + 1 => 3 * bnd n + 5
theorem int_cs (i : Int) : (i < 0 ∧ tx (.int i) = 45 :: TL.numL i.natAbs ∧ 0 < i.natAbs) ∨ (0 ≤ i ∧ tx (.int i) = TL.numL i.natAbs) := by
  by_cases h : i < 0
  · refine .inl ⟨h, ?_, by omega⟩
    show cs (Str.ofString (toString i)) = _
    rw [PyProof.Rows.toString_neg h]
    have e : (0 : Int) - i = ((i.natAbs : Nat) : Int) := by omega
    rw [e]
    have e2 : cs (Str.ofString ("-" ++ toString ((i.natAbs : Nat) : Int))) = 45 :: cs (Str.ofString (toString ((i.natAbs : Nat) : Int))) := by
      rw [PySem.Str.ofString_eq_toList, PySem.Str.ofString_eq_toList]
      show (("-" ++ toString ((i.natAbs : Nat) : Int)).toList.map Char.toNat) = 45 :: ((toString ((i.natAbs : Nat) : Int)).toList.map Char.toNat)
      rw [String.toList_append, List.map_append]
      rfl
    rw [e2]
    show 45 :: TL.tl _ = _
    rw [TL.tl_num]
  · refine .inr ⟨by omega, ?_⟩
    have e : i = ((i.natAbs : Nat) : Int) := by omega
    show TL.tl (Str.ofString (toString i)) = _
    rw [e, TL.tl_num]
    simp
theorem joinL_len (b : Nat) : ∀ (ps : List (List Nat)), (∀ p ∈ ps, p.length ≤ b) → (TL.joinL [32] ps).length ≤ ps.length * (b + 1)
  | [], _ => Nat.zero_le _
  | [p], h => by
    have := h p List.mem_cons_self
    show p.length ≤ 1 * (b + 1)
    omega
  | p :: q :: r, h => by
    have h1 := h p List.mem_cons_self
    have h2 := joinL_len b (q :: r) fun x hx => h x (List.mem_cons_of_mem _ hx)
    show (p ++ ([32] ++ TL.joinL [32] (q :: r))).length ≤ _
    rw [List.length_append, List.length_append, List.length_cons (as := q :: r), Nat.succ_mul, List.length_singleton]
    omega
theorem bnd_le : ∀ n : Nat, 21 ≤ bnd n
  | 0 => Nat.le_refl _
  | n + 1 => by have := bnd_le n; show 21 ≤ 3 * bnd n + 5; omega
mutual
theorem tx_len : ∀ {n : Nat} {d : D}, gT n d → (tx d).length ≤ bnd n ∧ tx d ≠ []
  | n, .non, _ => ⟨by have := bnd_le n; show 4 ≤ _; omega, by simp [tx]⟩
  | n, .int i, h => by
    have h20 := gT_int.mp h
    have hb := bnd_le n
    have hl := TL.numL_len (k := 20) (by decide) h20
    rcases int_cs i with ⟨h1, h2, h3⟩ | ⟨h1, h2⟩
    · rw [h2]
      exact ⟨by rw [List.length_cons]; omega, by simp⟩
    · rw [h2]
      exact ⟨by omega, TL.numL_ne _⟩
  | n, .str x, h => by
    have h1 := (gT_str.mp h).2.1
    have hb := bnd_le n
    show (if cs x = [] then [46] else cs x).length ≤ _ ∧ (if cs x = [] then [46] else cs x) ≠ []
    split
    · exact ⟨by show 1 ≤ _; omega, by simp⟩
    · rename_i hne
      exact ⟨by omega, hne⟩
  | n + 1, .tup xs, h => by
    have hl := txs_ok (n := n) h.2
    refine ⟨?_, by simp [tx]⟩
    have hj := joinL_len (bnd n) (txs xs) fun p hp => (hl p hp).1
    rw [txs_len] at hj
    have h3 : xs.length * (bnd n + 1) ≤ 3 * (bnd n + 1) := Nat.mul_le_mul_right _ h.1
    show (40 :: (TL.joinL [32] (txs xs) ++ [41])).length ≤ 3 * bnd n + 5
    rw [List.length_cons, List.length_append, List.length_singleton]
    omega
  | 0, .tup xs, h => h.elim
  | n, .bl _, h => by cases n <;> exact h.elim
  | n, .lst _, h => by cases n <;> exact h.elim
  | n, .con _, h => by cases n <;> exact h.elim
  | n, .ty _, h => by cases n <;> exact h.elim
  | n, .fn _, h => by cases n <;> exact h.elim
theorem txs_ok : ∀ {n : Nat} {xs : List D}, (∀ d ∈ xs, gT n d) → ∀ p ∈ txs xs, p.length ≤ bnd n ∧ p ≠ []
  | n, [], _, p, hp => by cases hp
  | n, d :: ds, h, p, hp => by
    rcases List.mem_cons.mp hp with e | hp
    · rw [e]
      exact tx_len (h d List.mem_cons_self)
    · exact txs_ok (fun x hx => h x (List.mem_cons_of_mem _ hx)) p hp
end
/-! ## read again -/
section
variable {z : Str} {a : Nat} {j : Str}
theorem isA_hd {c : Nat} {t : List Nat} (h : (cs z).drop a = c :: t) : isA z a j = decide (c ∈ cs j) ∧ (cs z).drop (a + 1) = t ∧ a < z.length := by
  have hl : a < (cs z).length := by
    rw [← Nat.not_le]
    intro q
    rw [List.drop_eq_nil_of_le q] at h
    cases h
  rw [List.drop_eq_getElem_cons hl] at h
  injection h with h1 h2
  refine ⟨?_, h2, by rw [← cs_length]; exact hl⟩
  have e : (cs z)[a]? = some c := by rw [List.getElem?_eq_getElem hl, h1]
  exact isA_some e
theorem isA_nil (h : (cs z).drop a = []) : isA z a j = false := by
  have e : (cs z)[a]? = none := List.getElem?_eq_none_iff.mpr (by
    have := congrArg List.length h
    rw [List.length_drop, List.length_nil] at this
    omega)
  exact isA_none e
/-- what may stand behind a term -/
def Bd (rest : List Nat) : Prop := rest = [] ∨ (∃ t, rest = 32 :: t) ∨ ∃ t, rest = 41 :: t
theorem run_at {w rest : List Nat} (h : (cs z).drop a = w ++ rest) (hw : ∀ c ∈ w, c ∈ cs j) (hr : Bd rest) (h32 : 32 ∉ cs j) (h41 : 41 ∉ cs j) : endW z a j = a + w.length ∧ mid z a (a + w.length) = mk w := by
  have hend : (rest.takeWhile fun c => decide (c ∈ cs j)) = [] := by
    rcases hr with rfl | ⟨t, rfl⟩ | ⟨t, rfl⟩
    · rfl
    · rw [List.takeWhile_cons, decide_eq_false h32]; rfl
    · rw [List.takeWhile_cons, decide_eq_false h41]; rfl
  refine ⟨?_, ?_⟩
  · unfold endW
    rw [h, List.takeWhile_append_of_pos fun c hc => decide_eq_true (hw c hc), hend, List.append_nil]
  · unfold mid mk
    rw [h, Nat.add_sub_cancel_left, List.take_left]
theorem numL_head (m : Nat) (h : 0 < m) : ∃ c t, TL.numL m = c :: t ∧ c ≠ 48 := by
  induction m using Nat.strongRecOn with
  | _ m ih =>
    by_cases h10 : m < 10
    · rw [TL.numL_lt h10]
      exact ⟨48 + m, [], rfl, by omega⟩
    · obtain ⟨c, t, e, hc⟩ := ih (m / 10) (by omega) (by omega)
      rw [TL.numL_step (by omega), e]
      exact ⟨c, t ++ [48 + m % 10], rfl, hc⟩
theorem dig_mem {c : Nat} (h : 48 ≤ c ∧ c ≤ 57) : c ∈ cs dig := by
  show c ∈ [48, 49, 50, 51, 52, 53, 54, 55, 56, 57]
  simp
  omega
theorem int1_at {m : Nat} {neg : Bool} {rest : List Nat} (h20 : m < 10 ^ 20) (hneg : neg = true → 0 < m) (h : (cs z).drop a = TL.numL m ++ rest) (hr : Bd rest) :
    rdInt1 z neg a = .ok (.int (if neg = true then -(m : Int) else (m : Int))) (a + (TL.numL m).length) := by
  have hall : ∀ c ∈ TL.numL m, c ∈ cs dig := fun c hc => dig_mem (TL.numL_digits m c hc)
  obtain ⟨e1, e2⟩ := run_at (j := dig) h hall hr (by decide) (by decide)
  have hl := TL.numL_len (k := 20) (by decide) h20
  have hne := TL.numL_ne m
  have hv : ival z a (a + (TL.numL m).length) = (m : Int) := by
    unfold ival
    rw [e2, intText_digits (x := mk (TL.numL m)) (TL.numL_digits m) hne (by show (TL.numL m).toArray.size ≤ 4300; rw [List.size_toArray]; omega)]
    show ((NumText.digitsVal (TL.numL m) : Nat) : Int) = _
    rw [TL.numL_val]
  have hd : isA z a dig = true ∧ (isA z a "0" = true → (TL.numL m).length = 1 ∧ m = 0) := by
    by_cases h0 : m = 0
    · subst h0
      have e0 : TL.numL 0 = [48] := TL.numL_lt (by decide)
      rw [e0] at h
      obtain ⟨g1, _, _⟩ := isA_hd (j := dig) (show (cs z).drop a = 48 :: rest from h)
      exact ⟨by rw [g1]; decide, fun _ => ⟨by rw [e0]; rfl, rfl⟩⟩
    · obtain ⟨c, t, ec, hc⟩ := numL_head m (by omega)
      rw [ec] at h
      obtain ⟨g1, _, _⟩ := isA_hd (j := dig) (show (cs z).drop a = c :: (t ++ rest) from h)
      obtain ⟨g2, _, _⟩ := isA_hd (j := "0") (show (cs z).drop a = c :: (t ++ rest) from h)
      refine ⟨by rw [g1]; exact decide_eq_true (hall c (by rw [ec]; exact List.mem_cons_self)), fun q => ?_⟩
      rw [g2] at q
      have q : c ∈ [48] := of_decide_eq_true q
      exact absurd (List.mem_singleton.mp q) hc
  unfold rdInt1
  rw [hd.1, e1, Nat.add_sub_cancel_left]
  have c1 : (!true || (neg && isA z a "0")) = false := by
    cases neg with
    | false => rfl
    | true =>
      cases q : isA z a "0" with
      | false => rfl
      | true =>
        have := (hd.2 q).2
        have := hneg rfl
        omega
  rw [c1, if_neg Bool.false_ne_true]
  have c2 : (isA z a "0" && decide (1 < (TL.numL m).length)) = false := by
    cases q : isA z a "0" with
    | false => rfl
    | true => rw [(hd.2 q).1]; rfl
  rw [c2, if_neg Bool.false_ne_true, if_neg (by omega), hv]
end
end Rn
set_option Elab.async false
set_option linter.all false
set_option maxRecDepth 100000
set_option maxHeartbeats 8000000
namespace Rn
open PySem L2 PyProof.Rows
section
variable {z : Str} {a : Nat}
theorem rdT_base (r : Nat) (h : isA z a "(" = false) : rdT z r a = (if isA z a "." = true then .ok (.str emp) (a + 1)
    else if isA z a sml = true then .ok (if (mid z a (endW z a sml) == "none") = true then .non else .str (mid z a (endW z a sml))) (endW z a sml) else rdInt z a) := by
  cases r with
  | zero => rw [rdT, h]; rfl
  | succ r => rw [rdT, h]; rfl
theorem word_at {w rest : List Nat} (r : Nat) (h : (cs z).drop a = w ++ rest) (hne : w ≠ []) (hw : ∀ c ∈ w, c ∈ cs sml) (hr : Bd rest) :
    rdT z r a = .ok (if (mk w == "none") = true then .non else .str (mk w)) (a + w.length) := by
  obtain ⟨e1, e2⟩ := run_at (j := sml) h hw hr (by decide) (by decide)
  cases w with
  | nil => exact absurd rfl hne
  | cons c t =>
    have hc := hw c List.mem_cons_self
    have h' : (cs z).drop a = c :: (t ++ rest) := h
    have b : 97 ≤ c ∧ c ≤ 122 := by
      have hc : c ∈ [97, 98, 99, 100, 101, 102, 103, 104, 105, 106, 107, 108, 109, 110, 111, 112, 113, 114, 115, 116, 117, 118, 119, 120, 121, 122] := hc
      simp at hc
      omega
    have g1 : isA z a "(" = false := by
      rw [(isA_hd (j := "(") h').1]
      refine decide_eq_false fun q => ?_
      have := List.mem_singleton.mp (show c ∈ [40] from q)
      omega
    have g2 : isA z a "." = false := by
      rw [(isA_hd (j := ".") h').1]
      refine decide_eq_false fun q => ?_
      have := List.mem_singleton.mp (show c ∈ [46] from q)
      omega
    have g3 : isA z a sml = true := by
      rw [(isA_hd (j := sml) h').1]
      exact decide_eq_true hc
    rw [rdT_base r g1, g2, if_neg Bool.false_ne_true, if_pos g3, e1, e2]
theorem int_at {i : Int} {rest : List Nat} (r : Nat) (h20 : i.natAbs < 10 ^ 20) (h : (cs z).drop a = tx (.int i) ++ rest) (hr : Bd rest) : rdT z r a = .ok (.int i) (a + (tx (.int i)).length) := by
  rcases int_cs i with ⟨h1, h2, h3⟩ | ⟨h1, h2⟩
  · rw [h2] at h ⊢
    have h' : (cs z).drop a = 45 :: (TL.numL i.natAbs ++ rest) := h
    have g1 : isA z a "(" = false := by rw [(isA_hd (j := "(") h').1]; decide
    have g2 : isA z a "." = false := by rw [(isA_hd (j := ".") h').1]; decide
    have g3 : isA z a sml = false := by rw [(isA_hd (j := sml) h').1]; decide
    have g4 : isA z a "-" = true := by rw [(isA_hd (j := "-") h').1]; decide
    rw [rdT_base r g1, g2, if_neg Bool.false_ne_true, g3, if_neg Bool.false_ne_true]
    unfold rdInt
    rw [if_pos g4, int1_at (neg := true) h20 (fun _ => h3) (isA_hd (j := "-") h').2.1 hr, if_pos rfl]
    rw [List.length_cons, show -((i.natAbs : Nat) : Int) = i by omega, show a + 1 + (TL.numL i.natAbs).length = a + ((TL.numL i.natAbs).length + 1) by omega]
  · rw [h2] at h ⊢
    obtain ⟨c, t, ec⟩ : ∃ c t, TL.numL i.natAbs = c :: t := by
      cases q : TL.numL i.natAbs with
      | nil => exact absurd q (TL.numL_ne _)
      | cons c t => exact ⟨c, t, rfl⟩
    have hc := TL.numL_digits i.natAbs c (by rw [ec]; exact List.mem_cons_self)
    have h' : (cs z).drop a = c :: (t ++ rest) := by rw [h, ec]; rfl
    have no : ∀ (j : Str) (l : List Nat), cs j = l → (∀ x ∈ l, x < 48 ∨ 57 < x) → isA z a j = false := fun j l e hl => by
      rw [(isA_hd (j := j) h').1, e]
      refine decide_eq_false fun q => ?_
      have := hl c q
      omega
    have g1 : isA z a "(" = false := no "(" [40] rfl (by simp)
    have g2 : isA z a "." = false := no "." [46] rfl (by simp)
    have g3 : isA z a sml = false := no sml [97, 98, 99, 100, 101, 102, 103, 104, 105, 106, 107, 108, 109, 110, 111, 112, 113, 114, 115, 116, 117, 118, 119, 120, 121, 122] rfl (by simp)
    have g4 : isA z a "-" = false := no "-" [45] rfl (by simp)
    rw [rdT_base r g1, g2, if_neg Bool.false_ne_true, g3, if_neg Bool.false_ne_true]
    unfold rdInt
    rw [g4, if_neg Bool.false_ne_true, int1_at (neg := false) h20 (fun q => by cases q) h hr, if_neg Bool.false_ne_true]
    rw [show ((i.natAbs : Nat) : Int) = i by omega]
/-- the entries behind the first one -/
def more : List D → List Nat
  | [] => []
  | d :: ds => 32 :: (tx d ++ more ds)
theorem join_more (d : D) : ∀ ds : List D, TL.joinL [32] (txs (d :: ds)) = tx d ++ more ds
  | [] => by simp [txs, TL.joinL, more]
  | e :: ds => by
    have ih := join_more e ds
    show tx d ++ ([32] ++ TL.joinL [32] (txs (e :: ds))) = _
    rw [ih]
    rfl
theorem bd_more (ds : List D) (rest : List Nat) : Bd (more ds ++ 41 :: rest) := by
  cases ds with
  | nil => exact .inr (.inr ⟨rest, rfl⟩)
  | cons d ds => exact .inr (.inl ⟨_, rfl⟩)
theorem drop_app {w rest : List Nat} (h : (cs z).drop a = w ++ rest) : (cs z).drop (a + w.length) = rest := by
  rw [← List.drop_drop, h, List.drop_left]
theorem rows_at {f : Nat → Out} {rest : List Nat} : ∀ (ds : List D) (m a : Nat) (found : List D), (∀ d ∈ ds, ∀ a rest, (cs z).drop a = tx d ++ rest → Bd rest → f a = .ok d (a + (tx d).length)) → found ≠ [] → ds.length < m →
    (cs z).drop a = more ds ++ 41 :: rest → rdL z f m a found = .ok (.tup (found ++ ds)) (a + (more ds).length + 1)
  | [], 0, a, found, F, hne, hm, h => by cases hm
  | [], m + 1, a, found, F, hne, hm, h => by
    have h' : (cs z).drop a = 41 :: rest := h
    rw [rdL, (isA_hd (j := ")") h').1, if_pos (by decide), List.append_nil]
    rfl
  | d :: ds, 0, a, found, F, hne, hm, h => by cases hm
  | d :: ds, m + 1, a, found, F, hne, hm, h => by
    have h' : (cs z).drop a = 32 :: (tx d ++ (more ds ++ 41 :: rest)) := by
      rw [h]
      show 32 :: (tx d ++ more ds) ++ 41 :: rest = _
      rw [List.cons_append, List.append_assoc]
    have g1 : isA z a ")" = false := by rw [(isA_hd (j := ")") h').1]; decide
    have g2 : isA z a " " = true := by rw [(isA_hd (j := " ") h').1]; decide
    have g3 := (isA_hd (j := " ") h').2.1
    have hfe : found.isEmpty = false := by cases found with | nil => exact absurd rfl hne | cons _ _ => rfl
    have hf := F d List.mem_cons_self (a + 1) _ g3 (bd_more ds rest)
    rw [rdL, g1, if_neg Bool.false_ne_true, g2, hfe]
    rw [if_neg (by decide), if_neg Bool.false_ne_true, hf]
    dsimp only
    rw [rows_at ds m (a + 1 + (tx d).length) (found ++ [d]) (fun e he => F e (List.mem_cons_of_mem _ he)) (by simp) (by simp at hm; omega) (drop_app g3)]
    rw [List.append_assoc]
    show Out.ok (.tup (found ++ d :: ds)) _ = Out.ok (.tup (found ++ d :: ds)) _
    congr 1
    show a + 1 + (tx d).length + (more ds).length + 1 = a + (32 :: (tx d ++ more ds)).length + 1
    rw [List.length_cons, List.length_append]
    omega
theorem more_len : ∀ ds : List D, ds.length ≤ (more ds).length
  | [] => Nat.le_refl _
  | d :: ds => by
    have := more_len ds
    show ds.length + 1 ≤ (tx d ++ more ds).length + 1
    rw [List.length_append]
    omega
theorem tm_at : ∀ {n : Nat} {d : D}, gT n d → ∀ (r a : Nat) (rest : List Nat), n ≤ r → (cs z).drop a = tx d ++ rest → Bd rest → rdT z r a = .ok d (a + (tx d).length)
  | n, .non, _, r, a, rest, hr, h, hb => by
    have := word_at r h (by simp [tx]) (by show ∀ c ∈ [110, 111, 110, 101], c ∈ cs sml; decide) hb
    rw [this]
    rfl
  | n, .int i, hg, r, a, rest, hr, h, hb => int_at r (gT_int.mp hg) h hb
  | n, .str x, hg, r, a, rest, hr, h, hb => by
    obtain ⟨h1, h2, h3⟩ := gT_str.mp hg
    by_cases he : cs x = []
    · have ex : x = emp := by rw [← mk_cs x, he]; rfl
      have et : tx (.str x) = [46] := by show (if cs x = [] then _ else _) = _; rw [if_pos he]
      rw [et] at h ⊢
      have h' : (cs z).drop a = 46 :: rest := h
      have g1 : isA z a "(" = false := by rw [(isA_hd (j := "(") h').1]; decide
      have g2 : isA z a "." = true := by rw [(isA_hd (j := ".") h').1]; decide
      rw [rdT_base r g1, if_pos g2, ex]
      rfl
    · have et : tx (.str x) = cs x := by show (if cs x = [] then _ else _) = _; rw [if_neg he]
      rw [et] at h ⊢
      have w := word_at r h he (fun c hc => by
        have hc := h1 c hc
        have hc : c ∈ [97, 98, 99, 110, 111, 122, 101] := hc
        have all : ∀ c ∈ [97, 98, 99, 110, 111, 122, 101], c ∈ cs sml := by decide
        exact all c hc) hb
      rw [w, mk_cs, beq_eq_false_iff_ne.mpr h3, if_neg Bool.false_ne_true]
  | 0, .tup xs, hg, _, _, _, _, _, _ => hg.elim
  | n, .bl _, hg, _, _, _, _, _, _ => by cases n <;> exact hg.elim
  | n, .lst _, hg, _, _, _, _, _, _ => by cases n <;> exact hg.elim
  | n, .con _, hg, _, _, _, _, _, _ => by cases n <;> exact hg.elim
  | n, .ty _, hg, _, _, _, _, _, _ => by cases n <;> exact hg.elim
  | n, .fn _, hg, _, _, _, _, _, _ => by cases n <;> exact hg.elim
  | n + 1, .tup xs, hg, 0, a, rest, hr, h, hb => by omega
  | n + 1, .tup xs, hg, r + 1, a, rest, hr, h, hb => by
    have h' : (cs z).drop a = 40 :: (TL.joinL [32] (txs xs) ++ 41 :: rest) := by
      rw [h]
      show 40 :: (TL.joinL [32] (txs xs) ++ [41]) ++ rest = _
      rw [List.cons_append, List.append_assoc]
      rfl
    have g1 : isA z a "(" = true := by rw [(isA_hd (j := "(") h').1]; decide
    have g3 := (isA_hd (j := "(") h').2.1
    have F : ∀ d ∈ xs, ∀ a rest, (cs z).drop a = tx d ++ rest → Bd rest → rdT z r a = .ok d (a + (tx d).length) := fun d hd a rest h hb => tm_at (hg.2 d hd) r a rest (by omega) h hb
    rw [rdT, if_pos g1]
    show _ = Out.ok _ (a + (40 :: (TL.joinL [32] (txs xs) ++ [41])).length)
    cases xs with
    | nil =>
      have g4 : (cs z).drop (a + 1) = 41 :: rest := g3
      rw [rdL, (isA_hd (j := ")") g4).1, if_pos (by decide)]
      rfl
    | cons d ds =>
      rw [join_more] at g3 ⊢
      rw [List.append_assoc] at g3
      have hd := F d List.mem_cons_self (a + 1) _ g3 (bd_more ds rest)
      have hg2 := (tx_len (hg.2 d List.mem_cons_self)).2
      obtain ⟨c, t, ec⟩ : ∃ c t, tx d = c :: t := by
        cases q : tx d with
        | nil => exact absurd q hg2
        | cons c t => exact ⟨c, t, rfl⟩
      have nc : isA z (a + 1) ")" = false := by
        cases q : isA z (a + 1) ")" with
        | false => rfl
        | true =>
          rw [ec] at g3
          have g3 : (cs z).drop (a + 1) = c :: (t ++ (more ds ++ 41 :: rest)) := g3
          rw [(isA_hd (j := ")") g3).1] at q
          have q := List.mem_singleton.mp (show c ∈ [41] from of_decide_eq_true q)
          have nb : rdT z r (a + 1) = .bad (a + 1) := by
            rw [q] at g3
            have k1 : isA z (a + 1) "(" = false := by rw [(isA_hd (j := "(") g3).1]; decide
            have k2 : isA z (a + 1) "." = false := by rw [(isA_hd (j := ".") g3).1]; decide
            have k3 : isA z (a + 1) sml = false := by rw [(isA_hd (j := sml) g3).1]; decide
            have k4 : isA z (a + 1) "-" = false := by rw [(isA_hd (j := "-") g3).1]; decide
            have k5 : isA z (a + 1) dig = false := by rw [(isA_hd (j := dig) g3).1]; decide
            rw [rdT_base r k1, k2, if_neg Bool.false_ne_true, k3, if_neg Bool.false_ne_true]
            unfold rdInt
            rw [k4, if_neg Bool.false_ne_true]
            unfold rdInt1
            rw [k5]
            rfl
          rw [nb] at hd
          cases hd
      have hzl : ds.length < z.length := by
        have e := congrArg List.length g3
        rw [List.length_drop, cs_length, List.length_append, List.length_append, ec, List.length_cons, List.length_cons] at e
        have := more_len ds
        omega
      rw [rdL, nc, if_neg Bool.false_ne_true]
      show (if (!true && _) = true then _ else _) = _
      rw [if_neg (by simp)]
      show (match rdT z r (a + 1) with | .ok d e => rdL z (rdT z r) z.length e ([] ++ [d]) | .bad e => .bad e) = _
      rw [hd]
      dsimp only
      rw [rows_at ds z.length (a + 1 + (tx d).length) ([] ++ [d]) (fun e he => F e (List.mem_cons_of_mem _ he)) (by simp) hzl (drop_app g3)]
      show Out.ok (.tup (d :: ds)) _ = Out.ok (.tup (d :: ds)) _
      congr 1
      rw [List.length_cons, List.length_append, List.length_append, List.length_singleton]
      omega
end
end Rn
set_option Elab.async false
set_option linter.all false
set_option maxRecDepth 100000
set_option maxHeartbeats 8000000
namespace Rn
open PySem L2 PyProof.Rows
mutual
theorem tx_ok : ∀ {n : Nat} {d : D}, gT n d → ∀ c ∈ tx d, c < 128 ∧ c ≠ 100
  | n, .non, _, c, hc => by
    have hc : c ∈ [110, 111, 110, 101] := hc
    simp at hc
    omega
  | n, .int i, _, c, hc => by
    rcases int_cs i with ⟨_, h, _⟩ | ⟨_, h⟩
    · rw [h] at hc
      rcases List.mem_cons.mp hc with e | hc
      · omega
      · have := TL.numL_digits _ c hc
        omega
    · rw [h] at hc
      have := TL.numL_digits _ c hc
      omega
  | n, .str x, hg, c, hc => by
    have h1 := (gT_str.mp hg).1
    have hc : c ∈ (if cs x = [] then [46] else cs x) := hc
    split at hc
    · have := List.mem_singleton.mp hc
      omega
    · have := h1 c hc
      have : c ∈ [97, 98, 99, 110, 111, 122, 101] := this
      simp at this
      omega
  | n + 1, .tup xs, hg, c, hc => by
    have hc : c ∈ 40 :: (TL.joinL [32] (txs xs) ++ [41]) := hc
    have hj : c = 40 ∨ c = 32 ∨ c = 41 ∨ ∃ p ∈ txs xs, c ∈ p := by
      rcases List.mem_cons.mp hc with e | hc
      · exact .inl e
      · rcases List.mem_append.mp hc with hc | hc
        · have go : ∀ ps : List (List Nat), c ∈ TL.joinL [32] ps → c = 32 ∨ ∃ p ∈ ps, c ∈ p := by
            intro ps
            induction ps with
            | nil => intro h; cases h
            | cons p ps ih =>
              cases ps with
              | nil => intro h; exact .inr ⟨p, List.mem_cons_self, h⟩
              | cons q r =>
                intro h
                have h : c ∈ p ++ ([32] ++ TL.joinL [32] (q :: r)) := h
                rcases List.mem_append.mp h with h | h
                · exact .inr ⟨p, List.mem_cons_self, h⟩
                · rcases List.mem_append.mp h with h | h
                  · exact .inl (List.mem_singleton.mp h)
                  · rcases ih h with h | ⟨s, hs, h⟩
                    · exact .inl h
                    · exact .inr ⟨s, List.mem_cons_of_mem _ hs, h⟩
          rcases go _ hc with h | h
          · exact .inr (.inl h)
          · exact .inr (.inr (.inr h))
        · exact .inr (.inr (.inl (List.mem_singleton.mp hc)))
    rcases hj with h | h | h | ⟨p, hp, h⟩
    · omega
    · omega
    · omega
    · exact txs_ok2 (n := n) hg.2 p hp c h
  | 0, .tup xs, hg, _, _ => hg.elim
  | n, .bl _, hg, _, _ => by cases n <;> exact hg.elim
  | n, .lst _, hg, _, _ => by cases n <;> exact hg.elim
  | n, .con _, hg, _, _ => by cases n <;> exact hg.elim
  | n, .ty _, hg, _, _ => by cases n <;> exact hg.elim
  | n, .fn _, hg, _, _ => by cases n <;> exact hg.elim
theorem txs_ok2 : ∀ {n : Nat} {xs : List D}, (∀ d ∈ xs, gT n d) → ∀ p ∈ txs xs, ∀ c ∈ p, c < 128 ∧ c ≠ 100
  | n, [], _, p, hp, c, hc => by cases hp
  | n, d :: ds, h, p, hp, c, hc => by
    rcases List.mem_cons.mp hp with e | hp
    · rw [e] at hc
      exact tx_ok (h d List.mem_cons_self) c hc
    · exact txs_ok2 (fun x hx => h x (List.mem_cons_of_mem _ hx)) p hp c hc
end
theorem okZ_of {z : Str} (h1 : ∀ c ∈ cs z, c < 128 ∧ c ≠ 100) (h2 : z.length ≤ 100000) : okZ z := by
  refine ⟨⟨by omega, fun c hc => by have := h1 c hc; omega⟩, fun a b e => ?_, h2⟩
  have hm : 100 ∈ cs (mid z a b) := by rw [e]; decide
  rw [mid_cs] at hm
  exact (h1 100 (List.mem_of_mem_drop (List.mem_of_mem_take hm))).2 rfl
theorem tx_okZ {d : D} (h : gT 4 d) : okZ (mk (tx d)) := okZ_of (fun c hc => tx_ok h c hc) (by
  have := (tx_len h).1
  show (tx d).toArray.size ≤ _
  rw [List.size_toArray]
  have e : bnd 4 = 1901 := by decide
  omega)
theorem told_tx {d : D} (h : gT 4 d) : toldD (mk (tx d)) = .lst [.str "term", d] := by
  have e := tm_at (z := mk (tx d)) h 24 0 [] (by decide) (by show tx d = _; rw [List.append_nil]) (.inl rfl)
  have hl : (mk (tx d)).length = (tx d).length := List.size_toArray ..
  unfold toldD outRd
  rw [e]
  dsimp only
  rw [if_neg (by omega)]
/-! ## the law's text, and the program's -/
theorem lc_map {e : CE} {ρ : Env} {S : List Box} {i : Nat} (g : D → D) : ∀ (xs acc : List D), i < ρ.length → (∀ d ∈ xs, e (ρ.set i (some (.v d))) S = .ok (.v (g d)) S) → acc.length + xs.length ≤ sizeLine → lcF (.nm i) bYes e ρ xs acc S = .ok (acc ++ xs.map g) S
  | [], acc, hi, h, hl => by rw [lcF, List.map_nil, List.append_nil]
  | d :: ds, acc, hi, h, hl => by
    have ih := lc_map (e := e) (ρ := ρ) (S := S) g ds (acc ++ [g d]) hi (fun x hx => h x (List.mem_cons_of_mem _ hx)) (by rw [List.length_append, List.length_singleton]; rw [List.length_cons] at hl; omega)
    have hd := h d List.mem_cons_self
    have hp : Tgt.put (.nm i) d ρ = some (ρ.set i (some (.v d))) := by
      show (if i < ρ.length then _ else _) = _
      rw [if_pos hi]
    rw [List.length_cons] at hl
    rw [lcF, hp]
    simp [bYes, Res.nox, Res.bind, hd, snoc, show acc.length < sizeLine by omega, ih]
theorem lcX_map {e : CE} {ρ : Env} {S : List Box} {i : Nat} (g : D → D) : ∀ (xs acc : List D), i < ρ.length → (∀ d ∈ xs, e (ρ.set i (some (.v d))) S = .ok (.v (g d)) S) → acc.length + xs.length ≤ sizeLine → lcFX (.nm i) bYes e ρ xs acc S = .ok (acc ++ xs.map g) S
  | [], acc, hi, h, hl => by rw [lcFX, List.map_nil, List.append_nil]
  | d :: ds, acc, hi, h, hl => by
    have ih := lcX_map (e := e) (ρ := ρ) (S := S) g ds (acc ++ [g d]) hi (fun x hx => h x (List.mem_cons_of_mem _ hx)) (by rw [List.length_append, List.length_singleton]; rw [List.length_cons] at hl; omega)
    have hd := h d List.mem_cons_self
    have hp : Tgt.put (.nm i) d ρ = some (ρ.set i (some (.v d))) := by
      show (if i < ρ.length then _ else _) = _
      rw [if_pos hi]
    rw [List.length_cons] at hl
    rw [lcFX, hp]
    simp [bYes, Res.nox, Res.bind, hd, snoc, show acc.length < sizeLine by omega, ih]
def tD (d : D) : D := .str (mk (tx d))
theorem strs_map : ∀ xs : List D, strsD (xs.map tD) = some (xs.map fun d => mk (tx d))
  | [] => rfl
  | d :: ds => by
    show (strsD (ds.map tD)).map (fun ys => mk (tx d) :: ys) = _
    rw [strs_map ds]
    rfl
theorem txs_map : ∀ xs : List D, xs.map tx = txs xs
  | [] => rfl
  | d :: ds => by rw [List.map_cons, txs, txs_map ds]
theorem sum_le {n : Nat} : ∀ {xs : List D}, (∀ d ∈ xs, gT n d) → ((xs.map fun d => mk (tx d)).map (·.length)).sum ≤ xs.length * bnd n
  | [], _ => Nat.zero_le _
  | d :: ds, h => by
    have h1 := (tx_len (h d List.mem_cons_self)).1
    have h2 := sum_le (xs := ds) fun x hx => h x (List.mem_cons_of_mem _ hx)
    have hl : (mk (tx d)).length = (tx d).length := List.size_toArray ..
    rw [List.map_cons, List.map_cons, List.sum_cons, List.length_cons, Nat.succ_mul]
    omega
theorem join_at {n : Nat} {xs : List D} (hn : bnd n ≤ 2000) (h3 : xs.length ≤ 3) (h : ∀ d ∈ xs, gT n d) (S : List Box) : dJoin " " (.v (.lst (xs.map tD))) S = some (.str (mk (TL.joinL [32] (txs xs)))) := by
  have hs := sum_le h
  have hm : xs.length * bnd n ≤ 3 * 2000 := Nat.mul_le_mul h3 hn
  have h1 : (Str.ofString " " : Str).length = 1 := rfl
  unfold dJoin
  show (match (some (xs.map tD)).bind strsD with | some ys => _ | none => none) = _
  rw [Option.bind_some, strs_map]
  dsimp only
  rw [if_pos]
  · congr 2
    refine TL.ext_tl ?_
    rw [TL.join_eq, TL.tl_join, List.map_map]
    show TL.joinL [32] (xs.map tx) = _
    rw [txs_map]
    rfl
  · rw [List.length_map, h1]
    omega
theorem par_at (l : List Nat) (h : l.length ≤ 100000) (S : List Box) : ∃ q, dAdd (.v (.str "(")) (.v (.str (mk l))) S = some (.str q) ∧ dAdd (.v (.str q)) (.v (.str ")")) S = some (.str (mk (40 :: (l ++ [41])))) := by
  have h16 : sizeLine = 16777216 := sizeLine_eq
  have hl : (mk l).length = l.length := List.size_toArray ..
  have e1 : (Str.ofString "(" : Str).length = 1 := rfl
  have e2 : (Str.ofString ")" : Str).length = 1 := rfl
  have e3 : ((Str.ofString "(" : Str) ++ mk l).length = 1 + l.length := by rw [strLen_append, hl, e1]
  refine ⟨(Str.ofString "(" : Str) ++ mk l, ?_, ?_⟩
  · show (if _ then _ else _) = _
    rw [if_pos (by omega)]
  · show (if _ then _ else _) = _
    rw [if_pos (by omega)]
    congr 2
    refine TL.ext_tl ?_
    rw [TL.tl_append, TL.tl_append]
    rfl
end Rn
set_option Elab.async false
set_option linter.all false
set_option maxRecDepth 100000
set_option maxHeartbeats 8000000
namespace Rn
open PySem L2 PyProof.Rows
def FX : Nat → CF
  | 0 => fun _ _ => .no
  | n + 1 => runF (n__law_text : List Str).length (c_law_text (FX n))
theorem small_int {i : Int} (h : i.natAbs < 10 ^ 20) : i.natAbs < 10 ^ 4300 := Nat.lt_trans h (by decide +kernel)
theorem int_mk (i : Int) : (Str.ofString (toString i) : Str) = mk (tx (.int i)) := (mk_cs _).symm
theorem str_int {i : Int} (h : i.natAbs < 10 ^ 20) (S : List Box) : fStr [.v (.int i)] S = some (tD (.int i)) := by
  have h1 := small_int h
  unfold fStr
  dsimp only
  rw [if_pos h1, int_mk]
  rfl
theorem bnd_small {n : Nat} (h : n ≤ 4) : bnd n ≤ 2000 := by
  have : ∀ n ≤ 4, bnd n ≤ 2000 := by decide
  exact this n h
theorem FX_eq : ∀ (n m : Nat) (d : D) (S : List Box), gT n d → n ≤ 4 → n < m → FX m [.v d] S = .ok (.v (tD d)) S
  | n, 0, d, S, hg, h4, hm => by omega
  | n, m + 1, d, S, hg, h4, hm => by
    have k11 : kitB "NoneType" "int" = some false := by decide +kernel
    have k12 : kitB "NoneType" "str" = some false := by decide +kernel
    have k21 : kitB "int" "int" = some true := by decide +kernel
    have k22 : kitB "int" "str" = some false := by decide +kernel
    have k31 : kitB "str" "int" = some false := by decide +kernel
    have k32 : kitB "str" "str" = some true := by decide +kernel
    have k13 : kitB "tuple" "int" = some false := by decide +kernel
    have k14 : kitB "tuple" "str" = some false := by decide +kernel
    have k23 : kitB "list" "int" = some false := by decide +kernel
    have k24 : kitB "list" "str" = some false := by decide +kernel
    have k33 : kitB "bool" "int" = some true := by decide +kernel
    have k34 : kitB "tuple" "tuple" = some true := by decide +kernel

    unfold FX
    show fin (c_law_text (FX m) [some (.v d), none] S) = _
    cases d with
    | non => simp [c_law_text, fin, sSeq, sIf, sSet, setU, cVar, cK, cBin, cFun, evL, bAnd, bOr, bNot, bTru, bTruR, dTru, bOf, bRes, opt, Res.bind, Res.st, notO, sNext, sRet, retR, cVal, cIf, cOr, dIsN, fIsi, tyU, tyD, k11, k12, k13, k14, k21, k22, k23, k24, k31, k32, k33, k34, tD, tx]; rfl
    | int i =>
      have fs := str_int (gT_int.mp hg) S
      simp [c_law_text, fin, sSeq, sIf, sSet, setU, cVar, cK, cBin, cFun, evL, bAnd, bOr, bNot, bTru, bTruR, dTru, bOf, bRes, opt, Res.bind, Res.st, notO, sNext, sRet, retR, cVal, cIf, cOr, dIsN, fIsi, tyU, tyD, k11, k12, k13, k14, k21, k22, k23, k24, k31, k32, k33, k34, fs]
    | str x =>
      have e0 : (Str.ofString "" : Str) = emp := rfl
      by_cases he : cs x = []
      · have ex : x = emp := by rw [← mk_cs x, he]; rfl
        subst ex
        have b : (emp == emp) = true := by decide
        simp [c_law_text, fin, sSeq, sIf, sSet, setU, cVar, cK, cBin, cFun, evL, bAnd, bOr, bNot, bTru, bTruR, dTru, bOf, bRes, opt, Res.bind, Res.st, notO, sNext, sRet, retR, cVal, cIf, cOr, dIsN, fIsi, tyU, tyD, k11, k12, k13, k14, k21, k22, k23, k24, k31, k32, k33, k34, e0, eq_str, b, tD, tx]
        rfl
      · have b : (x == emp) = false := beq_eq_false_iff_ne.mpr fun q => he (by rw [q]; rfl)
        have t : tD (.str x) = .str x := by show D.str (mk (if cs x = [] then [46] else cs x)) = _; rw [if_neg he, mk_cs]
        simp [c_law_text, fin, sSeq, sIf, sSet, setU, cVar, cK, cBin, cFun, evL, bAnd, bOr, bNot, bTru, bTruR, dTru, bOf, bRes, opt, Res.bind, Res.st, notO, sNext, sRet, retR, cVal, cIf, cOr, dIsN, fIsi, tyU, tyD, k11, k12, k13, k14, k21, k22, k23, k24, k31, k32, k33, k34, e0, eq_str, b, t]
    | tup xs =>
      cases n with
      | zero => exact hg.elim
      | succ n =>
        have h3 : xs.length ≤ 3 := hg.1
        have h16 : sizeLine = 16777216 := sizeLine_eq
        have body : ∀ d ∈ xs, (cCall (FX m) [(cVar 1)]) (([some (.v (.tup xs)), none] : Env).set 1 (some (.v d))) S = .ok (.v (tD d)) S := fun d hd => by
          have ih := FX_eq n m d S (hg.2 d hd) (by omega) (by omega)
          simp [cCall, evL, cVar, Res.bind, callR, notO, ih]
        have lc := lc_map (i := 1) tD xs [] (by simp) body (by simp; omega)
        have j := join_at (bnd_small (by omega : n ≤ 4)) h3 hg.2 S
        obtain ⟨q, p1, p2⟩ := par_at (TL.joinL [32] (txs xs)) (by
          have := (tx_len (n := n + 1) (d := .tup xs) hg).1
          have hb := bnd_small (by omega : n + 1 ≤ 4)
          have : (40 :: (TL.joinL [32] (txs xs) ++ [41])).length ≤ _ := this
          rw [List.length_cons, List.length_append] at this
          omega) S
        have lc' : cLc (cIt itT (cVar 0)) (.nm 1) bYes (cCall (FX m) [(cVar 1)]) [1] [some (.v (.tup xs)), none] S = .ok (xs.map tD) S := by
          simp only [cLc, cIt, cVar, List.getElem?_cons_zero, Res.bind, itT, optI]
          exact lc
        have jj : cJoin (cK (.str " ")) (cVal (cLc (cIt itT (cVar 0)) (.nm 1) bYes (cCall (FX m) [(cVar 1)]) [1])) [some (.v (.tup xs)), none] S = .ok (.v (.str (mk (TL.joinL [32] (txs xs))))) S := by
          simp [cJoin, cK, cVal, Res.bind, lc', j, opt]
        simp [c_law_text, fin, sSeq, sIf, sSet, setU, cVar, cK, cBin, cFun, evL, bAnd, bOr, bNot, bTru, bTruR, dTru, bOf, bRes, opt, Res.bind, Res.st, notO, sNext, sRet, retR, cVal, cIf, cOr, dIsN, fIsi, tyU, tyD, k11, k12, k13, k14, k21, k22, k23, k24, k31, k32, k33, k34, jj, p1, p2, tD, tx]
    | bl _ => cases n <;> exact hg.elim
    | lst _ => cases n <;> exact hg.elim
    | con _ => cases n <;> exact hg.elim
    | ty _ => cases n <;> exact hg.elim
    | fn _ => cases n <;> exact hg.elim
/-! ## term_text -/
def Fht : CF := runF (n_has_text : List Str).length c_has_text
def FTT : Nat → CF
  | 0 => fun _ _ => .no
  | n + 1 => runF (n_term_text : List Str).length (c_term_text Fht (FTT n))
theorem ht_small {i : Int} (h : i.natAbs < 10 ^ 20) (S : List Box) : Fht [.v (.int i)] S = .ok (.v (.bl true)) S := by
  have hd : (if i < 0 then -i else i) / 2 ^ (13287 : Int).toNat = 0 := by
    have hb : (i.natAbs : Int) < 2 ^ (13287 : Int).toNat := by
      have h1 : i.natAbs < 2 ^ 13287 := Nat.lt_trans h (by decide +kernel)
      have e : (13287 : Int).toNat = 13287 := rfl
      rw [e]
      exact_mod_cast h1
    have e : (if i < 0 then -i else i) = (i.natAbs : Int) := by split <;> omega
    rw [e]
    exact Int.ediv_eq_zero_of_lt (by omega) hb
  have hd2 : ∀ x : Int, x = (if i < 0 then -i else i) → x / 2 ^ (13287 : Int).toNat = 0 := fun x e => by rw [e]; exact hd
  generalize hx : (if i < 0 then -i else i) = x at hd
  have fa : fAbs [.v (.int i)] S = some (.int x) := by rw [← hx]; rfl
  have ds : dShr (.v (.int x)) (.v (.int 13287)) S = some (.int 0) := by
    show (if 0 ≤ (13287 : Int) then some (D.int (x / 2 ^ (13287 : Int).toNat)) else none) = _
    rw [if_pos (by decide), hd]
  show fin (c_has_text [some (.v (.int i)), none, none] S) = _
  simp [c_has_text, fin, sSeq, sIf, bNot, bTru, bTruR, dTru, cBin, cFun, evL, cVar, cK, Res.bind, Res.st, opt, fa, ds, sRet, retR, notO]
theorem FTT_eq : ∀ (n m : Nat) (d : D) (S : List Box), gT n d → n ≤ 4 → n < m → FTT m [.v d] S = .ok (.v (tD d)) S ∧ ∀ xs, d = .tup xs → FTT m [.v (.lst xs)] S = .ok (.v (tD d)) S
  | n, 0, d, S, hg, h4, hm => by omega
  | n, m + 1, d, S, hg, h4, hm => by
    have k11 : kitB "NoneType" "int" = some false := by decide +kernel
    have k12 : kitB "NoneType" "str" = some false := by decide +kernel
    have k21 : kitB "int" "int" = some true := by decide +kernel
    have k22 : kitB "int" "str" = some false := by decide +kernel
    have k31 : kitB "str" "int" = some false := by decide +kernel
    have k32 : kitB "str" "str" = some true := by decide +kernel
    have k13 : kitB "tuple" "int" = some false := by decide +kernel
    have k14 : kitB "tuple" "str" = some false := by decide +kernel
    have k23 : kitB "list" "int" = some false := by decide +kernel
    have k24 : kitB "list" "str" = some false := by decide +kernel
    have k33 : kitB "bool" "int" = some true := by decide +kernel
    have k34 : kitB "tuple" "tuple" = some true := by decide +kernel

    unfold FTT
    show fin (c_term_text Fht (FTT m) [some (.v d), none, none] S) = _ ∧ ∀ xs, d = .tup xs → fin (c_term_text Fht (FTT m) [some (.v (.lst xs)), none, none] S) = _
    cases d with
    | non =>
      refine ⟨?_, fun _ q => by cases q⟩
      simp [c_term_text, fin, sSeq, sIf, sSet, setU, cVar, cK, cBin, cFun, evL, bAnd, bOr, bNot, bTru, bTruR, dTru, bOf, bRes, opt, Res.bind, Res.st, notO, sNext, sRet, retR, cVal, cIf, cOr, dIsN, fIsi, tyU, tyD, k11, k12, k13, k14, k21, k22, k23, k24, k31, k32, k33, k34, tD, tx]
      rfl
    | int i =>
      refine ⟨?_, fun _ q => by cases q⟩
      have fs := str_int (gT_int.mp hg) S
      have h2 := ht_small (gT_int.mp hg) S
      simp [c_term_text, fin, sSeq, sIf, sSet, setU, cVar, cK, cBin, cFun, evL, bAnd, bOr, bNot, bTru, bTruR, dTru, bOf, bRes, opt, Res.bind, Res.st, notO, sNext, sRet, retR, cVal, cIf, cOr, dIsN, fIsi, tyU, tyD, k11, k12, k13, k14, k21, k22, k23, k24, k31, k32, k33, k34, cCall, callR, h2, fs]
    | str x =>
      refine ⟨?_, fun _ q => by cases q⟩
      obtain ⟨g1, g2, g3⟩ := gT_str.mp hg
      have h16 : sizeLine = 16777216 := sizeLine_eq
      have e0 : (Str.ofString "." : Str) = mk [46] := rfl
      have b3 : (x == ("none" : Str)) = false := beq_eq_false_iff_ne.mpr g3
      have xl : x.length = (cs x).length := (cs_length x).symm
      have src : (cIt itS (cVar 0)) [some (.v (.str x)), none, none] S = .ok ((cs x).map fun c => .str (one c)) S := by
        simp [cIt, cVar, Res.bind, itS, optI, cs, one]
      have lc0 := lc_map (e := (cBin (dInS false) (cVar 2) (cK (.str "abcdefghijklmnopqrstuvwxyz")))) (ρ := [some (.v (.str x)), none, none]) (S := S) (i := 2) (fun _ => .bl true) ((cs x).map fun c => .str (one c)) [] (by simp) (fun d hd => by
        obtain ⟨c, hc, e⟩ := List.mem_map.mp hd
        have hc := g1 c hc
        have hc : c ∈ [97, 98, 99, 110, 111, 122, 101] := hc
        have all : ∀ c ∈ [97, 98, 99, 110, 111, 122, 101], c ∈ cs sml := by decide
        have hc := all c hc
        have es : (Str.ofString "abcdefghijklmnopqrstuvwxyz" : Str) = sml := rfl
        rw [← e, es]
        simp [cBin, cVar, cK, Res.bind, opt, in_one, hc]) (by simp; omega)
      have lc : cLc (cIt itS (cVar 0)) (.nm 2) bYes (cBin (dInS false) (cVar 2) (cK (.str "abcdefghijklmnopqrstuvwxyz"))) [2] [some (.v (.str x)), none, none] S = .ok (((cs x).map fun c => D.str (one c)).map fun _ => .bl true) S := by
        simp only [cLc, src, Res.bind]
        exact lc0
      have all : ∀ l : List Nat, blsD ((l.map fun c => D.str (one c)).map fun _ => D.bl true) = some (l.map fun _ => true) := fun l => by
        induction l with
        | nil => rfl
        | cons c l ih =>
          show (blsD ((l.map fun c => D.str (one c)).map fun _ => D.bl true)).map (fun bs => true :: bs) = _
          rw [ih]
          rfl
      have allT : ∀ l : List Nat, (l.map fun _ => true).all id = true := fun l => by
        induction l with
        | nil => rfl
        | cons c l ih => exact ih
      have fa : (cFun fAll [(cVal (cLc (cIt itS (cVar 0)) (.nm 2) bYes (cBin (dInS false) (cVar 2) (cK (.str "abcdefghijklmnopqrstuvwxyz"))) [2]))]) [some (.v (.str x)), none, none] S = .ok (.v (.bl true)) S := by
        have e : fAll [.v (.lst (((cs x).map fun c => D.str (one c)).map fun _ => .bl true))] S = some (.bl true) := by
          unfold fAll
          dsimp only [asL]
          rw [Option.bind_some, all]
          show some (D.bl ((List.map (fun _ => true) (cs x)).all id)) = _
          rw [allT]
        simp only [cFun, evL, cVal, lc, Res.bind, e, opt]
      unfold c_term_text
      generalize (cFun fAll [(cVal (cLc (cIt itS (cVar 0)) (.nm 2) bYes (cBin (dInS false) (cVar 2) (cK (.str "abcdefghijklmnopqrstuvwxyz"))) [2]))]) = cA at fa ⊢
      by_cases he : cs x = []
      · have ex : x = emp := by rw [← mk_cs x, he]; rfl
        subst ex
        have em : ((emp.length : Int) != 0) = false := by decide
        have el : emp.length ≤ sizeLine := by rw [h16]; decide
        simp [fin, sSeq, sIf, sSet, setU, cVar, cK, cBin, cFun, evL, bAnd, bOr, bNot, bTru, bTruR, dTru, bOf, bRes, opt, Res.bind, Res.st, notO, sNext, sRet, retR, cVal, cIf, cOr, dIsN, fIsi, tyU, tyD, k11, k12, k13, k14, k21, k22, k23, k24, k31, k32, k33, k34, eq_str, b3, fa, em, el, tD, tx, he, e0]
      · have t : tD (.str x) = .str x := by show D.str (mk (if cs x = [] then [46] else cs x)) = _; rw [if_neg he, mk_cs]
        have hl : ((x.length : Int) != 0) = true := by
          rw [bne_iff_ne]
          intro q
          have : (cs x).length = 0 := by omega
          exact he (List.length_eq_zero_iff.mp this)
        simp [fin, sSeq, sIf, sSet, setU, cVar, cK, cBin, cFun, evL, bAnd, bOr, bNot, bTru, bTruR, dTru, bOf, bRes, opt, Res.bind, Res.st, notO, sNext, sRet, retR, cVal, cIf, cOr, dIsN, fIsi, tyU, tyD, k11, k12, k13, k14, k21, k22, k23, k24, k31, k32, k33, k34, eq_str, b3, fa, t, show x.length ≤ sizeLine by omega, hl]
    | tup xs =>
      cases n with
      | zero => exact hg.elim
      | succ n =>
        have h3 : xs.length ≤ 3 := hg.1
        have h16 : sizeLine = 16777216 := sizeLine_eq
        have j := join_at (bnd_small (by omega : n ≤ 4)) h3 hg.2 S
        obtain ⟨q, p1, p2⟩ := par_at (TL.joinL [32] (txs xs)) (by
          have := (tx_len (n := n + 1) (d := .tup xs) hg).1
          have hb := bnd_small (by omega : n + 1 ≤ 4)
          have : (40 :: (TL.joinL [32] (txs xs) ++ [41])).length ≤ _ := this
          rw [List.length_cons, List.length_append] at this
          omega) S
        have gen : ∀ u : D, (u = .tup xs ∨ u = .lst xs) → cJoin (cK (.str " ")) (cVal (cLcX (cIt itQ (cVar 0)) (.nm 1) bYes (cCall (FTT m) [(cVar 1)]) [1])) [some (.v u), none, none] S = .ok (.v (.str (mk (TL.joinL [32] (txs xs))))) S := fun u hu => by
          have body : ∀ d ∈ xs, (cCall (FTT m) [(cVar 1)]) (([some (.v u), none, none] : Env).set 1 (some (.v d))) S = .ok (.v (tD d)) S := fun d hd => by
            have ih := (FTT_eq n m d S (hg.2 d hd) (by omega) (by omega)).1
            simp [cCall, evL, cVar, Res.bind, callR, notO, ih]
          have lc := lcX_map (i := 1) tD xs [] (by simp) body (by simp; omega)
          have lc' : cLcX (cIt itQ (cVar 0)) (.nm 1) bYes (cCall (FTT m) [(cVar 1)]) [1] [some (.v u), none, none] S = .ok (xs.map tD) S := by
            rcases hu with rfl | rfl
            · simp only [cLcX, cIt, cVar, List.getElem?_cons_zero, Res.bind, itQ, optI]
              exact lc
            · simp only [cLcX, cIt, cVar, List.getElem?_cons_zero, Res.bind, itQ, itL, optI]
              exact lc
          simp [cJoin, cK, cVal, Res.bind, lc', j, opt]
        refine ⟨?_, fun ys e => ?_⟩
        · simp [c_term_text, fin, sSeq, sIf, sSet, setU, cVar, cK, cBin, cFun, evL, bAnd, bOr, bNot, bTru, bTruR, dTru, bOf, bRes, opt, Res.bind, Res.st, notO, sNext, sRet, retR, cVal, cIf, cOr, dIsN, fIsi, tyU, tyD, k11, k12, k13, k14, k21, k22, k23, k24, k31, k32, k33, k34, gen _ (.inl rfl), p1, p2, tD, tx]
        · cases e
          simp [c_term_text, fin, sSeq, sIf, sSet, setU, cVar, cK, cBin, cFun, evL, bAnd, bOr, bNot, bTru, bTruR, dTru, bOf, bRes, opt, Res.bind, Res.st, notO, sNext, sRet, retR, cVal, cIf, cOr, dIsN, fIsi, tyU, tyD, k11, k12, k13, k14, k21, k22, k23, k24, k31, k32, k33, k34, gen _ (.inr rfl), p1, p2, tD, tx]
    | bl _ => cases n <;> exact hg.elim
    | lst _ => cases n <;> exact hg.elim
    | con _ => cases n <;> exact hg.elim
    | ty _ => cases n <;> exact hg.elim
    | fn _ => cases n <;> exact hg.elim
end Rn
set_option Elab.async false
set_option linter.all false
set_option maxRecDepth 100000
set_option maxHeartbeats 8000000
namespace Rn
open PySem L2 PyProof.Rows
def okI (l : List Int) : Prop := ∀ i ∈ l, 0 ≤ i ∧ i < 1000
theorem okI_app {a b : List Int} (h1 : okI a) (h2 : okI b) : okI (a ++ b) := fun i hi => by
  rcases List.mem_append.mp hi with hi | hi
  · exact h1 i hi
  · exact h2 i hi
def im (l : List Int) : List D := l.map .int
theorem im_len (l : List Int) : (im l).length = l.length := List.length_map ..
theorem im_app (a b : List Int) : im (a ++ b) = im a ++ im b := List.map_append
/-- the draws stand in the last box -/
def Dr (b n : Nat) (S : List Box) : Prop := S.length = n + 1 ∧ ∃ l, S[n]? = some (.lst (im l)) ∧ okI l ∧ l.length ≤ b
/-! ## the draws of a script -/
def Fln : CF := runF (n__law_number : List Str).length c_law_number
theorem ln_eq (c : Int) (S : List Box) : ∃ r, Fln [.v (.int c)] S = .ok (.v (.int r)) S ∧ 0 ≤ r := by
  refine ⟨if c < 0 then 0 - c else c, ?_, by split <;> omega⟩
  show fin (c_law_number [some (.v (.int c))] S) = _
  by_cases h : c < 0
  · simp [c_law_number, fin, sSeq, sIf, sSet, setU, cVar, cK, cBin, cFun, evL, bAnd, bOr, bNot, bTru, bTruR, dTru, asQ, asL, bOf, bRes, opt, Res.bind, Res.st, notO, sNext, sRet, retR, cVal, cIf, fInt, dMod, dMul, dAdd, dDiv, dSub, dCmpI, eq_int, sBrk, sMut, mutR, mApp, mExt, cLst, lstR, pures, h]
  · simp [c_law_number, fin, sSeq, sIf, sSet, setU, cVar, cK, cBin, cFun, evL, bAnd, bOr, bNot, bTru, bTruR, dTru, asQ, asL, bOf, bRes, opt, Res.bind, Res.st, notO, sNext, sRet, retR, cVal, cIf, fInt, dMod, dMul, dAdd, dDiv, dSub, dCmpI, eq_int, sBrk, sMut, mutR, mApp, mExt, cLst, lstR, pures, h]
def c_big : CS := (sSeq (sIf (bOf (cBin (dEq false) (cVar 3) (cK (.int 0)))) sBrk sNext)
    (sSeq (sMut 1 mApp [(cBin dMod (cFun fInt [(cVar 3)]) (cK (.int 1000)))] fun _ ρ S => .nx ρ S)
    (sSet 3 (cBin dDiv (cVar 3) (cK (.int 1000))))))
theorem big_loop (u0 : U) (x5 x6 : Option U) (c : Option U) (S : List Box) : ∀ (ds : List D) (l : List Int) (r : Int) (x4 : Option U), okI l → l.length + ds.length ≤ 10000 → 0 ≤ r →
    ∃ l' r' x4', forF (.nm 4) c_big ds [some u0, some (.o (im l)), c, some (.v (.int r)), x4, x5, x6] S = .nx [some u0, some (.o (im l')), c, some (.v (.int r')), x4', x5, x6] S ∧ okI l' ∧ l'.length ≤ l.length + ds.length
  | [], l, r, x4, hl, hn, hr => ⟨l, r, x4, rfl, hl, by simp⟩
  | d :: ds, l, r, x4, hl, hn, hr => by
    have h16 : sizeLine = 16777216 := sizeLine_eq
    rw [List.length_cons] at hn
    unfold forF
    have hp : Tgt.put (.nm 4) d [some u0, some (.o (im l)), c, some (.v (.int r)), x4, x5, x6] = some [some u0, some (.o (im l)), c, some (.v (.int r)), some (.v d), x5, x6] := rfl
    rw [hp]
    dsimp only
    by_cases h0 : r = 0
    · refine ⟨l, r, some (.v d), ?_, hl, by rw [List.length_cons]; omega⟩
      subst h0
      simp [c_big, fin, sSeq, sIf, sSet, setU, cVar, cK, cBin, cFun, evL, bAnd, bOr, bNot, bTru, bTruR, dTru, asQ, asL, bOf, bRes, opt, Res.bind, Res.st, notO, sNext, sRet, retR, cVal, cIf, fInt, dMod, dMul, dAdd, dDiv, dSub, dCmpI, eq_int, sBrk, sMut, mutR, mApp, mExt, cLst, lstR, pures]
    · have hb : (r == 0) = false := beq_eq_false_iff_ne.mpr h0
      have hlen : (im l).length < sizeLine := by rw [im_len]; omega
      have e : c_big [some u0, some (.o (im l)), c, some (.v (.int r)), some (.v d), x5, x6] S = .nx [some u0, some (.o (im (l ++ [r % 1000]))), c, some (.v (.int (r / 1000))), some (.v d), x5, x6] S := by
        have ei : im (l ++ [r % 1000]) = im l ++ [.int (r % 1000)] := im_app l [r % 1000]
        rw [ei]
        simp [c_big, fin, sSeq, sIf, sSet, setU, cVar, cK, cBin, cFun, evL, bAnd, bOr, bNot, bTru, bTruR, dTru, asQ, asL, bOf, bRes, opt, Res.bind, Res.st, notO, sNext, sRet, retR, cVal, cIf, fInt, dMod, dMul, dAdd, dDiv, dSub, dCmpI, eq_int, sBrk, sMut, mutR, mApp, mExt, cLst, lstR, pures, hb, hlen]
      obtain ⟨l', r', x4', e1, e2, e3⟩ := big_loop u0 x5 x6 c S ds (l ++ [r % 1000]) (r / 1000) (some (.v d)) (okI_app hl fun i hi => by rw [List.mem_singleton.mp hi]; omega) (by rw [List.length_append, List.length_singleton]; omega) (by omega)
      refine ⟨l', r', x4', ?_, e2, by rw [List.length_append, List.length_singleton] at e3; rw [List.length_cons]; omega⟩
      rw [e]
      exact e1
def c_cell : CS := (sSeq (sSet 3 (cCall Fln [(cVar 2)]))
    (sIf (bOf (cBin (dCmpI fun i j => decide (j ≤ i)) (cVar 3) (cK (.int 1000000000000000000)))) (sFor (cRng1 [(cK (.int 60))]) (.nm 4) c_big) (sSeq (sSet 5 (cBin dMod (cFun fInt [(cBin dAdd (cBin dMul (cVar 3) (cK (.int 48271))) (cK (.int 11)))]) (cK (.int 2147483647))))
    (sSeq (sSet 6 (cBin dMod (cFun fInt [(cBin dAdd (cBin dMul (cVar 5) (cK (.int 69621))) (cVar 3))]) (cK (.int 2147483629))))
    (sMut 1 mExt [(cVal (cLst [(cBin dMod (cFun fInt [(cVar 3)]) (cK (.int 1000))), (cBin dMod (cFun fInt [(cVar 5)]) (cK (.int 1000))), (cBin dMod (cFun fInt [(cVar 6)]) (cK (.int 1000)))]))] fun _ ρ S => .nx ρ S)))))
theorem cell_step (u0 : U) (c : Int) (S : List Box) (l : List Int) (x3 x4 x5 x6 : Option U) (hl : okI l) (hn : l.length + 60 ≤ 10000) :
    ∃ l' x3' x4' x5' x6', c_cell [some u0, some (.o (im l)), some (.v (.int c)), x3, x4, x5, x6] S = .nx [some u0, some (.o (im l')), some (.v (.int c)), x3', x4', x5', x6'] S ∧ okI l' ∧ l'.length ≤ l.length + 60 := by
  have h16 : sizeLine = 16777216 := sizeLine_eq
  obtain ⟨r, er, hr⟩ := ln_eq c S
  have rg : ∀ ρ : Env, cRng1 [(cK (.int 60))] ρ S = .ok (rngD 0 60) S := fun ρ => by
    simp [cRng1, evL, cK, Res.bind, itR1]
  by_cases h : (1000000000000000000 : Int) ≤ r
  · obtain ⟨l', r', x4', e1, e2, e3⟩ := big_loop u0 x5 x6 (some (.v (.int c))) S (rngD 0 60) l r x4 hl (by rw [len_rng]; exact hn) hr
    rw [len_rng] at e3
    refine ⟨l', some (.v (.int r')), x4', x5, x6, ?_, e2, e3⟩
    unfold c_cell
    generalize c_big = cB at e1 ⊢
    simp [fin, sSeq, sIf, sSet, setU, cVar, cK, cBin, cFun, evL, bAnd, bOr, bNot, bTru, bTruR, dTru, asQ, asL, bOf, bRes, opt, Res.bind, Res.st, notO, sNext, sRet, retR, cVal, cIf, fInt, dMod, dMul, dAdd, dDiv, dSub, dCmpI, eq_int, sBrk, sMut, mutR, mApp, mExt, cLst, lstR, pures, cCall, callR, er, h, sFor, rg, e1]
  · have hlen : (im l).length + 3 ≤ sizeLine := by rw [im_len]; omega
    have m1 : (-(2 ^ 64) < r ∧ r < 2 ^ 64) ∨ (-(2 ^ 64) < (48271 : Int) ∧ (48271 : Int) < 2 ^ 64) := .inr (by decide)
    generalize ho : (r * 48271 + 11) % 2147483647 = o
    generalize ht : (o * 69621 + r) % 2147483629 = t
    refine ⟨l ++ [r % 1000, o % 1000, t % 1000], some (.v (.int r)), x4, some (.v (.int o)), some (.v (.int t)), ?_, okI_app hl fun i hi => ?_, by simp⟩
    · have ei : im (l ++ [r % 1000, o % 1000, t % 1000]) = im l ++ [.int (r % 1000), .int (o % 1000), .int (t % 1000)] := im_app l _
      rw [ei]
      simp [c_cell, fin, sSeq, sIf, sSet, setU, cVar, cK, cBin, cFun, evL, bAnd, bOr, bNot, bTru, bTruR, dTru, asQ, asL, bOf, bRes, opt, Res.bind, Res.st, notO, sNext, sRet, retR, cVal, cIf, fInt, dMod, dMul, dAdd, dDiv, dSub, dCmpI, eq_int, sBrk, sMut, mutR, mApp, mExt, cLst, lstR, pures, cCall, callR, er, h, ho, ht, hlen]
    · simp at hi
      omega
theorem cells_loop (u0 : U) (S : List Box) : ∀ (ns : List Int) (l : List Int) (x2 x3 x4 x5 x6 : Option U), okI l → l.length + 60 * ns.length ≤ 10000 →
    ∃ l' x2' x3' x4' x5' x6', forF (.nm 2) c_cell (im ns) [some u0, some (.o (im l)), x2, x3, x4, x5, x6] S = .nx [some u0, some (.o (im l')), x2', x3', x4', x5', x6'] S ∧ okI l' ∧ l'.length ≤ 10000
  | [], l, x2, x3, x4, x5, x6, hl, hn => ⟨l, x2, x3, x4, x5, x6, rfl, hl, by simpa using hn⟩
  | c :: ns, l, x2, x3, x4, x5, x6, hl, hn => by
    rw [List.length_cons] at hn
    obtain ⟨l1, y3, y4, y5, y6, e, h1, h2⟩ := cell_step u0 c S l x3 x4 x5 x6 hl (by omega)
    obtain ⟨l', z2, z3, z4, z5, z6, e', h3, h4⟩ := cells_loop u0 S ns l1 (some (.v (.int c))) y3 y4 y5 y6 h1 (by omega)
    refine ⟨l', z2, z3, z4, z5, z6, ?_, h3, h4⟩
    show forF (.nm 2) c_cell (.int c :: im ns) _ S = _
    unfold forF
    have hp : Tgt.put (.nm 2) (.int c) [some u0, some (.o (im l)), x2, x3, x4, x5, x6] = some [some u0, some (.o (im l)), some (.v (.int c)), x3, x4, x5, x6] := rfl
    rw [hp]
    dsimp only
    rw [e]
    exact e'
def Fdr : CF := runF (n__law_draws : List Str).length (c_law_draws Fln)
theorem dr_split : c_law_draws Fln = sSeq (sOwn 1 (cLst [])) (sSeq (sFor (cIt itL (cVar 0)) (.nm 2) c_cell) (sSeq (sMut 1 mRev [] fun _ ρ S => .nx ρ S) (sSeq (sMkB 1) (sRet (cVar 1))))) := rfl
theorem dr_eq (ns : List Int) (h : ns.length ≤ 63) : ∃ S', Fdr [.v (.con (im ns))] [] = .ok (.b 0) S' ∧ Dr 10000 0 S' := by
  obtain ⟨l', z2, z3, z4, z5, z6, e', h3, h4⟩ := cells_loop (.v (.con (im ns))) [] ns [] none none none none none (fun i hi => by cases hi) (by simp; omega)
  refine ⟨[.lst (im l'.reverse)], ?_, rfl, l'.reverse, rfl, fun i hi => h3 i (List.mem_reverse.mp hi), by rw [List.length_reverse]; exact h4⟩
  have em : im l'.reverse = (im l').reverse := by simp [im]
  rw [em]
  show fin (c_law_draws Fln [some (.v (.con (im ns))), none, none, none, none, none, none] []) = _
  rw [dr_split]
  generalize c_cell = cC at e' ⊢
  have e' : forF (.nm 2) cC (im ns) [some (.v (.con (im ns))), some (.o []), none, none, none, none, none] [] = .nx [some (.v (.con (im ns))), some (.o (im l')), z2, z3, z4, z5, z6] [] := e'
  simp [fin, sSeq, sIf, sSet, setU, cVar, cK, cBin, cFun, evL, bAnd, bOr, bNot, bTru, bTruR, dTru, asQ, asL, bOf, bRes, opt, Res.bind, Res.st, notO, sNext, sRet, retR, cVal, cIf, fInt, dMod, dMul, dAdd, dDiv, dSub, dCmpI, eq_int, sBrk, sMut, mutR, mApp, mExt, cLst, lstR, pures, sOwn, sFor, cIt, itL, optI, e', mRev, sMkB]
/-! ## next, more, pick -/
def Fnx : CF := runF (n__law_next : List Str).length c_law_next
theorem nx_eq {b n : Nat} {S : List Box} (h : Dr b n S) : ∃ v S', Fnx [.b n] S = .ok (.v (.int v)) S' ∧ Dr b n S' ∧ 0 ≤ v ∧ v < 1000 := by
  obtain ⟨hn, l, hl, ok, h4⟩ := h
  show ∃ v S', fin (c_law_next [some (.b n)] S) = _ ∧ _
  cases hr : l.reverse with
  | nil =>
    have e : l = [] := List.reverse_eq_nil_iff.mp hr
    subst e
    refine ⟨0, S, ?_, ⟨hn, [], hl, ok, h4⟩, by omega, by omega⟩
    have hl : S[n]? = some (.lst []) := hl
    simp [c_law_next, fin, sSeq, sIf, sSet, setU, cVar, cK, cBin, cFun, evL, bAnd, bOr, bNot, bTru, bTruR, dTru, asQ, asL, bOf, bRes, opt, Res.bind, Res.st, notO, sNext, sRet, retR, cVal, cIf, fInt, dMod, dMul, dAdd, dDiv, dSub, dCmpI, eq_int, sBrk, sMut, mutR, mApp, mExt, cLst, lstR, pures, hl]
  | cons v t =>
    have e : l = t.reverse ++ [v] := by rw [← List.reverse_reverse l, hr, List.reverse_cons]
    have hv := ok v (by rw [e]; simp)
    refine ⟨v, S.set n (.lst (im t.reverse)), ?_, ⟨by rw [List.length_set]; exact hn, t.reverse, List.getElem?_set_self (by omega), fun i hi => ok i (by rw [e]; exact List.mem_append_left _ hi), by rw [e, List.length_append] at h4; omega⟩, hv.1, hv.2⟩
    have el : im l = im t.reverse ++ [.int v] := by rw [e]; exact im_app _ _
    rw [el] at hl
    simp [c_law_next, fin, sSeq, sIf, sSet, setU, cVar, cK, cBin, cFun, evL, bAnd, bOr, bNot, bTru, bTruR, dTru, asQ, asL, bOf, bRes, opt, Res.bind, Res.st, notO, sNext, sRet, retR, cVal, cIf, fInt, dMod, dMul, dAdd, dDiv, dSub, dCmpI, eq_int, sBrk, sMut, mutR, mApp, mExt, cLst, lstR, pures, hl, cMutB, boxL, mutB, mPop]
def c_one : CS := (sSeq (sSet 2 (cBin dMod (cFun fInt [(cBin dAdd (cBin dMul (cVar 2) (cK (.int 48271))) (cK (.int 12345)))]) (cK (.int 2147483647))))
    (sMut 3 mApp [(cBin dMod (cFun fInt [(cBin dDiv (cVar 2) (cK (.int 7)))]) (cK (.int 1000)))] fun _ ρ S => .nx ρ S))
theorem more_loop (u0 u1 : U) (S : List Box) : ∀ (ds : List D) (l : List Int) (s : Int) (x4 : Option U), okI l → l.length + ds.length ≤ 10000 →
    ∃ l' s' x4', forF (.nm 4) c_one ds [some u0, some u1, some (.v (.int s)), some (.o (im l)), x4] S = .nx [some u0, some u1, some (.v (.int s')), some (.o (im l')), x4'] S ∧ okI l' ∧ l'.length = l.length + ds.length
  | [], l, s, x4, hl, hn => ⟨l, s, x4, rfl, hl, by simp⟩
  | d :: ds, l, s, x4, hl, hn => by
    have h16 : sizeLine = 16777216 := sizeLine_eq
    rw [List.length_cons] at hn
    unfold forF
    have hp : Tgt.put (.nm 4) d [some u0, some u1, some (.v (.int s)), some (.o (im l)), x4] = some [some u0, some u1, some (.v (.int s)), some (.o (im l)), some (.v d)] := rfl
    rw [hp]
    dsimp only
    have hlen : (im l).length < sizeLine := by rw [im_len]; omega
    generalize ho : (s * 48271 + 12345) % 2147483647 = o
    have e : c_one [some u0, some u1, some (.v (.int s)), some (.o (im l)), some (.v d)] S = .nx [some u0, some u1, some (.v (.int o)), some (.o (im (l ++ [(o / 7) % 1000]))), some (.v d)] S := by
      have ei : im (l ++ [(o / 7) % 1000]) = im l ++ [.int ((o / 7) % 1000)] := im_app l _
      rw [ei]
      simp [c_one, fin, sSeq, sIf, sSet, setU, cVar, cK, cBin, cFun, evL, bAnd, bOr, bNot, bTru, bTruR, dTru, asQ, asL, bOf, bRes, opt, Res.bind, Res.st, notO, sNext, sRet, retR, cVal, cIf, fInt, dMod, dMul, dAdd, dDiv, dSub, dCmpI, eq_int, sBrk, sMut, mutR, mApp, mExt, cLst, lstR, pures, ho, hlen]
    obtain ⟨l', s', x4', e1, e2, e3⟩ := more_loop u0 u1 S ds (l ++ [(o / 7) % 1000]) o (some (.v d)) (okI_app hl fun i hi => by rw [List.mem_singleton.mp hi]; omega) (by rw [List.length_append, List.length_singleton]; omega)
    refine ⟨l', s', x4', ?_, e2, by rw [List.length_append, List.length_singleton] at e3; rw [List.length_cons]; omega⟩
    rw [e]
    exact e1
def Fmo : CF := runF (n__law_more : List Str).length (c_law_more Fnx)
theorem mo_split : c_law_more Fnx = sSeq (sSet 2 (cBin dAdd (cBin dAdd (cBin dMul (cK (.int 1000)) (cCall Fnx [(cVar 0)])) (cCall Fnx [(cVar 0)])) (cK (.int 1)))) (sSeq (sOwn 3 (cLst [])) (sSeq (sFor (cRng1 [(cVar 1)]) (.nm 4) c_one) (sRet (cBox (cCat (cVar 3) (cVar 0)))))) := rfl
theorem mo_eq {S : List Box} (h : Dr 10000 0 S) : ∃ S', Fmo [.b 0, .v (.int 120)] S = .ok (.b 1) S' ∧ Dr 20000 1 S' := by
  have h16 : sizeLine = 16777216 := sizeLine_eq
  obtain ⟨v1, S1, e1, d1, _, _⟩ := nx_eq h
  obtain ⟨v2, S2, e2, d2, _, _⟩ := nx_eq d1
  obtain ⟨l', s', x4', e3, ok', hl'⟩ := more_loop (.b 0) (.v (.int 120)) S2 (rngD 0 120) [] (1000 * v1 + v2 + 1) none (fun i hi => by cases hi) (by rw [len_rng]; decide)
  rw [len_rng] at hl'
  have hl' : l'.length = 120 := by simpa using hl'
  obtain ⟨hn, l, hl, ok, h4⟩ := d2
  obtain ⟨x, hx⟩ := List.length_eq_one_iff.mp (show S2.length = 1 from hn)
  subst hx
  have hx : x = .lst (im l) := Option.some.inj hl
  subst hx
  have rg : ∀ ρ : Env, ρ[1]? = some (some (.v (.int 120))) → cRng1 [(cVar 1)] ρ [.lst (im l)] = .ok (rngD 0 120) [.lst (im l)] := fun ρ hρ => by
    simp [cRng1, evL, cVar, hρ, Res.bind, itR1]
  have hlen : (im l').length + (im l).length ≤ sizeLine := by rw [im_len, im_len]; omega
  have hc : im l' ++ im l = im (l' ++ l) := (im_app _ _).symm
  refine ⟨[.lst (im l)] ++ [.lst (im (l' ++ l))], ?_, rfl, l' ++ l, rfl, okI_app ok' ok, by rw [List.length_append]; omega⟩
  show fin (c_law_more Fnx [some (.b 0), some (.v (.int 120)), none, none, none] S) = _
  rw [mo_split]
  generalize c_one = cC at e3 ⊢
  have e3 : forF (.nm 4) cC (rngD 0 120) [some (.b 0), some (.v (.int 120)), some (.v (.int (1000 * v1 + v2 + 1))), some (.o []), none] [.lst (im l)] = .nx [some (.b 0), some (.v (.int 120)), some (.v (.int s')), some (.o (im l')), x4'] [.lst (im l)] := e3
  simp [fin, sSeq, sIf, sSet, setU, cVar, cK, cBin, cFun, evL, bAnd, bOr, bNot, bTru, bTruR, dTru, asQ, asL, bOf, bRes, opt, Res.bind, Res.st, notO, sNext, sRet, retR, cVal, cIf, fInt, dMod, dMul, dAdd, dDiv, dSub, dCmpI, eq_int, sBrk, sMut, mutR, mApp, mExt, cLst, lstR, pures, cCall, callR, e1, e2, sOwn, sFor, rg, e3, cBox, cCat, hl, hlen, hc, hn]
def Fpk : CF := runF (n__law_pick : List Str).length (c_law_pick Fnx)
theorem pk_eq {b n : Nat} {S : List Box} (h : Dr b n S) {xs : List D} (hx : xs ≠ []) (hs : xs.length ≤ 1000) : ∃ d S', d ∈ xs ∧ Fpk [.b n, .v (.lst xs)] S = .ok (.v d) S' ∧ Dr b n S' := by
  obtain ⟨v, S', e, d, h0, h1⟩ := nx_eq h
  have hp : 0 < xs.length := List.length_pos_iff.mpr hx
  have hm : 0 ≤ v % (xs.length : Int) ∧ v % (xs.length : Int) < xs.length := ⟨Int.emod_nonneg _ (by omega), Int.emod_lt_of_pos _ (by omega)⟩
  obtain ⟨j, hj⟩ := Int.eq_ofNat_of_zero_le hm.1
  have hjl : j < xs.length := by omega
  refine ⟨xs[j], S', List.getElem_mem hjl, ?_, d⟩
  have ix : dIx (.v (.lst xs)) (.v (.int (v % (xs.length : Int)))) S' = some xs[j] := by
    rw [hj]
    show (match asQ (.v (.lst xs)) S' with | some ds => atI ds (j : Int) | none => none) = _
    show atI xs (j : Int) = _
    exact atI_nat (List.getElem?_eq_getElem hjl)
  have hp2 : (0 : Int) < (xs.length : Int) := by omega
  show fin (c_law_pick Fnx [some (.b n), some (.v (.lst xs))] S) = _
  simp [c_law_pick, fin, sSeq, sIf, sSet, setU, cVar, cK, cBin, cFun, evL, bAnd, bOr, bNot, bTru, bTruR, dTru, asQ, asL, bOf, bRes, opt, Res.bind, Res.st, notO, sNext, sRet, retR, cVal, cIf, fInt, dMod, dMul, dAdd, dDiv, dSub, dCmpI, eq_int, sBrk, sMut, mutR, mApp, mExt, cLst, lstR, pures, cCall, callR, e, fLen, hp2, ix]
  rw [if_pos hp]
  simp [ix]
end Rn
set_option Elab.async false
set_option linter.all false
set_option maxRecDepth 100000
set_option maxHeartbeats 8000000
namespace Rn
open PySem L2 PyProof.Rows
theorem lc_rel {e : CE} {ρ : Env} {i b n : Nat} {P : D → Prop} (hi : i < ρ.length) (h : ∀ d S, Dr b n S → ∃ y S', e (ρ.set i (some (.v d))) S = .ok (.v y) S' ∧ Dr b n S' ∧ P y) : ∀ (xs acc : List D) (S : List Box), Dr b n S → acc.length + xs.length ≤ sizeLine →
    ∃ ys S', lcF (.nm i) bYes e ρ xs acc S = .ok (acc ++ ys) S' ∧ ys.length = xs.length ∧ (∀ y ∈ ys, P y) ∧ Dr b n S'
  | [], acc, S, hd, hl => ⟨[], S, by rw [lcF, List.append_nil], rfl, (fun y hy => by cases hy), hd⟩
  | d :: ds, acc, S, hd, hl => by
    rw [List.length_cons] at hl
    obtain ⟨y, S1, e1, d1, p1⟩ := h d S hd
    obtain ⟨ys, S2, e2, l2, p2, d2⟩ := lc_rel hi h ds (acc ++ [y]) S1 d1 (by rw [List.length_append, List.length_singleton]; omega)
    refine ⟨y :: ys, S2, ?_, by rw [List.length_cons, List.length_cons, l2], fun w hw => ?_, d2⟩
    · have hp : Tgt.put (.nm i) d ρ = some (ρ.set i (some (.v d))) := by
        show (if i < ρ.length then _ else _) = _
        rw [if_pos hi]
      rw [lcF, hp]
      simp [bYes, Res.nox, Res.bind, e1, snoc, show acc.length < sizeLine by omega, e2]
    · rcases List.mem_cons.mp hw with q | hw
      · rw [q]; exact p1
      · exact p2 w hw
theorem flat_join : ∀ ps : List (List Nat), TL.joinL [] ps = ps.flatten
  | [] => rfl
  | [p] => by simp [TL.joinL]
  | p :: q :: r => by
    have := flat_join (q :: r)
    show p ++ ([] ++ TL.joinL [] (q :: r)) = _
    rw [this]
    rfl
theorem ones_of : ∀ (ys : List D), (∀ y ∈ ys, ∃ c ∈ cs "abcnoze", y = .str (one c)) → ∃ l : List Nat, (∀ c ∈ l, c ∈ cs "abcnoze") ∧ l.length = ys.length ∧ strsD ys = some (l.map one) ∧ ((l.map one).map (·.length)).sum = l.length ∧ ((l.map one).map TL.tl).flatten = l
  | [], _ => ⟨[], (fun _ h => by cases h), rfl, rfl, rfl, rfl⟩
  | y :: ys, h => by
    obtain ⟨c, hc, e⟩ := h y List.mem_cons_self
    obtain ⟨l, h1, h2, h3, h4, h5⟩ := ones_of ys fun z hz => h z (List.mem_cons_of_mem _ hz)
    have o1 : (one c).length = 1 := rfl
    refine ⟨c :: l, fun d hd => ?_, by rw [List.length_cons, List.length_cons, h2], ?_, ?_, ?_⟩
    · rcases List.mem_cons.mp hd with q | hd
      · rw [q]; exact hc
      · exact h1 d hd
    · rw [e]
      show (strsD ys).map (fun xs => one c :: xs) = _
      rw [h3]
      rfl
    · rw [List.map_cons, List.map_cons, List.sum_cons, h4, List.length_cons, o1]
      omega
    · rw [List.map_cons, List.map_cons, List.flatten_cons, h5]
      rfl
def Fte : Nat → CF
  | 0 => fun _ _ => .no
  | n + 1 => runF (n__law_term : List Str).length (c_law_term Fnx Fpk (Fte n))
theorem rng_mod {ρ : Env} {S S' : List Box} {b n : Nat} {v : Int} (m : Nat) (hm : 0 < m) (hm2 : m < 100) (h : (cCall Fnx [(cVar 0)]) ρ S = .ok (.v (.int v)) S') (hv : 0 ≤ v) :
    ∃ j : Nat, j < m ∧ cRng1 [(cBin dMod (cFun fInt [(cCall Fnx [(cVar 0)])]) (cK (.int (m : Int))))] ρ S = .ok (rngD 0 j) S' := by
  have hp : (0 : Int) < (m : Int) := by omega
  have h1 : 0 ≤ v % (m : Int) ∧ v % (m : Int) < (m : Int) := ⟨Int.emod_nonneg _ (by omega), Int.emod_lt_of_pos _ hp⟩
  obtain ⟨j, hj⟩ := Int.eq_ofNat_of_zero_le h1.1
  refine ⟨j, by omega, ?_⟩
  have hd : dMod (.v (.int v)) (.v (.int (m : Int))) S' = some (.int (j : Int)) := by
    show (if 0 < (m : Int) then some (D.int (v % (m : Int))) else none) = _
    rw [if_pos hp, hj]
  simp only [cRng1, evL, cBin, cFun, h, Res.bind, fInt, opt, cK, hd, itR1]
  rw [if_pos (by omega)]
  rfl
theorem te_eq : ∀ (n m : Nat) {b : Nat} {S : List Box}, n ≤ 4 → n < m → Dr b 1 S → ∃ d S', Fte m [.b 1, .v (.int ((4 - n : Nat) : Int))] S = .ok (.v d) S' ∧ Dr b 1 S' ∧ gT n d
  | n, 0, b, S, hn, hm, hd => by omega
  | n, m + 1, b, S, hn, hm, hd => by
    have h16 : sizeLine = 16777216 := sizeLine_eq
    unfold Fte
    show ∃ d S', fin (c_law_term Fnx Fpk (Fte m) [some (.b 1), some (.v (.int ((4 - n : Nat) : Int))), none, none, none] S) = _ ∧ _
    generalize hdp : ((4 - n : Nat) : Int) = dp
    obtain ⟨v0, S0, e0, d0, h00, h01⟩ := nx_eq hd
    -- the kind
    have hk : ∃ kind : Int, 0 ≤ kind ∧ (n = 0 → kind < 5) ∧ kind < 8 ∧ (sSet 2 (cBin dMod (cFun fInt [(cCall Fnx [(cVar 0)])]) (cIf (bOf (cBin (dCmpI fun i j => decide (i < j)) (cVar 1) (cK (.int 4)))) (cK (.int 8)) (cK (.int 5))))) [some (.b 1), some (.v (.int dp)), none, none, none] S = .nx [some (.b 1), some (.v (.int dp)), some (.v (.int kind)), none, none] S0 := by
      by_cases h4 : dp < 4
      · refine ⟨v0 % 8, by omega, fun q => by omega, by omega, ?_⟩
        simp [fin, sSeq, sIf, sSet, setU, cVar, cK, cBin, cFun, evL, bOf, bRes, opt, Res.bind, Res.st, notO, sNext, sRet, retR, cVal, cIf, fInt, dMod, dMul, dAdd, dSub, dCmpI, eq_int, cCall, callR, e0, h4]
      · refine ⟨v0 % 5, by omega, fun q => by omega, by omega, ?_⟩
        simp [fin, sSeq, sIf, sSet, setU, cVar, cK, cBin, cFun, evL, bOf, bRes, opt, Res.bind, Res.st, notO, sNext, sRet, retR, cVal, cIf, fInt, dMod, dMul, dAdd, dSub, dCmpI, eq_int, cCall, callR, e0, h4]
    obtain ⟨kind, k0, k1, k2, ek⟩ := hk
    by_cases c0 : kind = 0
    · -- a word
      subst c0
      obtain ⟨v1, S1, e1, d1, h10, h11⟩ := nx_eq d0
      have c1 : (cCall Fnx [(cVar 0)]) [some (.b 1), some (.v (.int dp)), some (.v (.int 0)), none, none] S0 = .ok (.v (.int v1)) S1 := by simp [cCall, evL, cVar, Res.bind, callR, notO, e1]
      obtain ⟨j, hj, er⟩ := rng_mod (b := b) (n := 1) 6 (by decide) (by decide) c1 h10
      have elt : ∀ (d : D) (T : List Box), Dr b 1 T → ∃ y T', (cBin dIx (cK (.str "abcnoze")) (cBin dMod (cFun fInt [(cCall Fnx [(cVar 0)])]) (cK (.int 7)))) (([some (.b 1), some (.v (.int dp)), some (.v (.int 0)), none, none] : Env).set 4 (some (.v d))) T = .ok (.v y) T' ∧ Dr b 1 T' ∧ ∃ c ∈ cs "abcnoze", y = .str (one c) := fun d T hT => by
        obtain ⟨w, T', ew, dw, hw0, hw1⟩ := nx_eq hT
        have hm : 0 ≤ w % 7 ∧ w % 7 < 7 := by omega
        obtain ⟨i, hi⟩ := Int.eq_ofNat_of_zero_le hm.1
        have hil : i < (cs "abcnoze").length := by show i < 7; omega
        refine ⟨.str (one (cs "abcnoze")[i]), T', ?_, dw, _, List.getElem_mem hil, rfl⟩
        have ix : dIx (.v (.str "abcnoze")) (.v (.int (w % 7))) T' = some (.str (one (cs "abcnoze")[i])) := by
          rw [hi]
          unfold dIx
          dsimp only
          rw [if_pos (by decide), show atI (Str.ofString "abcnoze").cps.toList (i : Int) = some (cs "abcnoze")[i] from atI_nat (List.getElem?_eq_getElem hil)]
          rfl
        simp [fin, sSeq, sIf, sSet, setU, cVar, cK, cBin, cFun, evL, bOf, bRes, opt, Res.bind, Res.st, notO, sNext, sRet, retR, cVal, cIf, fInt, dMod, dMul, dAdd, dSub, dCmpI, eq_int, cCall, callR, ew, ix]
      obtain ⟨ys, S2, el, ll, pl, d2⟩ := lc_rel (Nat.le_of_ble_eq_true rfl) elt (rngD 0 j) [] S1 d1 (by rw [len_rng]; simp; omega)
      rw [len_rng] at ll
      obtain ⟨l, l1, l2, l3, l4, l5⟩ := ones_of ys pl
      have jo : dJoin "" (.v (.lst ys)) S2 = some (.str (mk l)) := by
        unfold dJoin
        show (match (some ys).bind strsD with | some ys => _ | none => none) = _
        rw [Option.bind_some, l3]
        dsimp only
        have z0 : (Str.ofString "" : Str).length = 0 := rfl
        rw [if_pos (by rw [l4, z0, Nat.mul_zero]; omega)]
        congr 2
        refine TL.ext_tl ?_
        rw [TL.join_eq, TL.tl_join]
        show TL.joinL [] _ = _
        rw [flat_join, l5]
        rfl
      have el2 : cLc (cRng1 [(cBin dMod (cFun fInt [(cCall Fnx [(cVar 0)])]) (cK (.int 6)))]) (.nm 4) bYes (cBin dIx (cK (.str "abcnoze")) (cBin dMod (cFun fInt [(cCall Fnx [(cVar 0)])]) (cK (.int 7)))) [4] [some (.b 1), some (.v (.int dp)), some (.v (.int 0)), none, none] S0 = .ok ys S2 := by
        have er : cRng1 [(cBin dMod (cFun fInt [(cCall Fnx [(cVar 0)])]) (cK (.int 6)))] [some (.b 1), some (.v (.int dp)), some (.v (.int 0)), none, none] S0 = .ok (rngD 0 j) S1 := er
        unfold cLc
        rw [er]
        exact el
      have j2 : cJoin (cK (.str "")) (cVal (cLc (cRng1 [(cBin dMod (cFun fInt [(cCall Fnx [(cVar 0)])]) (cK (.int 6)))]) (.nm 4) bYes (cBin dIx (cK (.str "abcnoze")) (cBin dMod (cFun fInt [(cCall Fnx [(cVar 0)])]) (cK (.int 7)))) [4])) [some (.b 1), some (.v (.int dp)), some (.v (.int 0)), none, none] S0 = .ok (.v (.str (mk l))) S2 := by
        simp only [cJoin, cK, cVal, Res.bind, el2, jo, opt]
      refine ⟨if (mk l == ("none" : Str)) = true then .str "zone" else .str (mk l), S2, ?_, d2, ?_⟩
      · unfold c_law_term
        generalize (cJoin (cK (.str "")) (cVal (cLc (cRng1 [(cBin dMod (cFun fInt [(cCall Fnx [(cVar 0)])]) (cK (.int 6)))]) (.nm 4) bYes (cBin dIx (cK (.str "abcnoze")) (cBin dMod (cFun fInt [(cCall Fnx [(cVar 0)])]) (cK (.int 7)))) [4]))) = cJ at j2 ⊢
        generalize (sSet 2 (cBin dMod (cFun fInt [(cCall Fnx [(cVar 0)])]) (cIf (bOf (cBin (dCmpI fun i j => decide (i < j)) (cVar 1) (cK (.int 4)))) (cK (.int 8)) (cK (.int 5))))) = cS at ek ⊢
        cases hq : (mk l == ("none" : Str)) with
        | true => simp [fin, sSeq, sIf, sSet, setU, cVar, cK, cBin, cFun, evL, bOf, bRes, opt, Res.bind, Res.st, notO, sNext, sRet, retR, cVal, cIf, fInt, dMod, dMul, dAdd, dSub, dCmpI, eq_int, cCall, callR, ek, j2, eq_str, hq]
        | false => simp [fin, sSeq, sIf, sSet, setU, cVar, cK, cBin, cFun, evL, bOf, bRes, opt, Res.bind, Res.st, notO, sNext, sRet, retR, cVal, cIf, fInt, dMod, dMul, dAdd, dSub, dCmpI, eq_int, cCall, callR, ek, j2, eq_str, hq]
      · cases hq : (mk l == ("none" : Str)) with
        | true =>
          rw [if_pos rfl]
          exact gT_str.mpr ⟨by decide, by decide, by decide⟩
        | false =>
          rw [if_neg Bool.false_ne_true]
          exact gT_str.mpr ⟨fun c hc => l1 c hc, by show l.length ≤ 5; omega, beq_eq_false_iff_ne.mp hq⟩
    · have b0 : (kind == 0) = false := beq_eq_false_iff_ne.mpr c0
      by_cases c1 : kind = 1
      · subst c1
        obtain ⟨d, S1, hmem, ep, d1⟩ := pk_eq (xs := [.non, .int 0, .int (-1), .int (10 ^ 19), .int (0 - 10 ^ 20 + 1)]) d0 (by simp) (by simp)
        refine ⟨d, S1, ?_, d1, ?_⟩
        · unfold c_law_term
          generalize (sSet 2 (cBin dMod (cFun fInt [(cCall Fnx [(cVar 0)])]) (cIf (bOf (cBin (dCmpI fun i j => decide (i < j)) (cVar 1) (cK (.int 4)))) (cK (.int 8)) (cK (.int 5))))) = cS at ek ⊢
          have args : (cVal (cLst [(cK .non), (cK (.int 0)), (cUn dNeg (cK (.int 1))), (cBin dPow (cK (.int 10)) (cK (.int 19))), (cBin dAdd (cBin dSub (cK (.int 0)) (cBin dPow (cK (.int 10)) (cK (.int 20)))) (cK (.int 1)))])) [some (.b 1), some (.v (.int dp)), some (.v (.int 1)), none, none] S0 = .ok (.v (.lst [.non, .int 0, .int (-1), .int (10 ^ 19), .int (0 - 10 ^ 20 + 1)])) S0 := by rfl
          generalize (cVal (cLst [(cK .non), (cK (.int 0)), (cUn dNeg (cK (.int 1))), (cBin dPow (cK (.int 10)) (cK (.int 19))), (cBin dAdd (cBin dSub (cK (.int 0)) (cBin dPow (cK (.int 10)) (cK (.int 20)))) (cK (.int 1)))])) = cA at args ⊢
          generalize ([.non, .int 0, .int (-1), .int (10 ^ 19), .int (0 - 10 ^ 20 + 1)] : List D) = xs at ep args
          simp [fin, sSeq, sIf, sSet, setU, cVar, cK, cBin, cFun, evL, bOf, bRes, opt, Res.bind, Res.st, notO, sNext, sRet, retR, cVal, cIf, fInt, dMod, dMul, dAdd, dSub, dCmpI, eq_int, cCall, callR, ek, args, ep]
        · simp only [List.mem_cons, List.not_mem_nil, or_false] at hmem
          rcases hmem with h | h | h | h | h
          · rw [h]; cases n <;> exact True.intro
          · rw [h]; exact gT_int.mpr (by decide)
          · rw [h]; exact gT_int.mpr (by decide)
          · rw [h]; exact gT_int.mpr (by decide)
          · rw [h]; exact gT_int.mpr (by decide)
      · have b1 : (kind == 1) = false := beq_eq_false_iff_ne.mpr c1
        by_cases c5 : kind < 5
        · obtain ⟨v1, S1, e1, d1, h10, h11⟩ := nx_eq d0
          obtain ⟨v2, S2, e2, d2, h20, h21⟩ := nx_eq d1
          refine ⟨.int (v1 - 100 * (v2 % 7)), S2, ?_, d2, gT_int.mpr (by omega)⟩
          unfold c_law_term
          generalize (sSet 2 (cBin dMod (cFun fInt [(cCall Fnx [(cVar 0)])]) (cIf (bOf (cBin (dCmpI fun i j => decide (i < j)) (cVar 1) (cK (.int 4)))) (cK (.int 8)) (cK (.int 5))))) = cS at ek ⊢
          simp [fin, sSeq, sIf, sSet, setU, cVar, cK, cBin, cFun, evL, bOf, bRes, opt, Res.bind, Res.st, notO, sNext, sRet, retR, cVal, cIf, fInt, dMod, dMul, dAdd, dSub, dCmpI, eq_int, cCall, callR, ek, b0, b1, c5, e1, e2]
        · cases n with
          | zero => exact absurd (k1 rfl) c5
          | succ n =>
            obtain ⟨v1, S1, e1, d1, h10, h11⟩ := nx_eq d0
            have cc : (cCall Fnx [(cVar 0)]) [some (.b 1), some (.v (.int dp)), some (.v (.int kind)), none, none] S0 = .ok (.v (.int v1)) S1 := by simp [cCall, evL, cVar, Res.bind, callR, notO, e1]
            obtain ⟨j, hj, er⟩ := rng_mod (b := b) (n := 1) 4 (by decide) (by decide) cc h10
            have elt : ∀ (d : D) (T : List Box), Dr b 1 T → ∃ y T', (cCall (Fte m) [(cVar 0), (cBin dAdd (cVar 1) (cK (.int 1)))]) (([some (.b 1), some (.v (.int dp)), some (.v (.int kind)), none, none] : Env).set 4 (some (.v d))) T = .ok (.v y) T' ∧ Dr b 1 T' ∧ gT n y := fun d T hT => by
              obtain ⟨y, T', ey, dy, gy⟩ := te_eq n m (by omega) (by omega) hT
              have hdn : ((4 - n : Nat) : Int) = dp + 1 := by omega
              rw [hdn] at ey
              exact ⟨y, T', by simp [fin, sSeq, sIf, sSet, setU, cVar, cK, cBin, cFun, evL, bOf, bRes, opt, Res.bind, Res.st, notO, sNext, sRet, retR, cVal, cIf, fInt, dMod, dMul, dAdd, dSub, dCmpI, eq_int, cCall, callR, ey], dy, gy⟩
            obtain ⟨ys, S2, el, ll, pl, d2⟩ := lc_rel (Nat.le_of_ble_eq_true rfl) elt (rngD 0 j) [] S1 d1 (by rw [len_rng]; simp; omega)
            rw [len_rng] at ll
            have el2 : cLc (cRng1 [(cBin dMod (cFun fInt [(cCall Fnx [(cVar 0)])]) (cK (.int 4)))]) (.nm 4) bYes (cCall (Fte m) [(cVar 0), (cBin dAdd (cVar 1) (cK (.int 1)))]) [4] [some (.b 1), some (.v (.int dp)), some (.v (.int kind)), none, none] S0 = .ok ys S2 := by
              have er : cRng1 [(cBin dMod (cFun fInt [(cCall Fnx [(cVar 0)])]) (cK (.int 4)))] [some (.b 1), some (.v (.int dp)), some (.v (.int kind)), none, none] S0 = .ok (rngD 0 j) S1 := er
              unfold cLc
              rw [er]
              exact el
            refine ⟨.tup ys, S2, ?_, d2, ⟨by omega, pl⟩⟩
            unfold c_law_term
            generalize (cLc (cRng1 [(cBin dMod (cFun fInt [(cCall Fnx [(cVar 0)])]) (cK (.int 4)))]) (.nm 4) bYes (cCall (Fte m) [(cVar 0), (cBin dAdd (cVar 1) (cK (.int 1)))]) [4]) = cL at el2 ⊢
            generalize (sSet 2 (cBin dMod (cFun fInt [(cCall Fnx [(cVar 0)])]) (cIf (bOf (cBin (dCmpI fun i j => decide (i < j)) (cVar 1) (cK (.int 4)))) (cK (.int 8)) (cK (.int 5))))) = cS at ek ⊢
            simp [fin, sSeq, sIf, sSet, setU, cVar, cK, cBin, cFun, evL, bOf, bRes, opt, Res.bind, Res.st, notO, sNext, sRet, retR, cVal, cIf, fInt, dMod, dMul, dAdd, dSub, dCmpI, eq_int, cCall, callR, ek, b0, b1, c5, el2, fTup, asL]
end Rn
set_option Elab.async false
set_option linter.all false
set_option maxRecDepth 100000
set_option maxHeartbeats 8000000
namespace Rn
open PySem L2 PyProof.Rows
/-- the repr of a value -/
def rp (d : D) : Str := match toPy d with
  | some p => p.shown
  | none => emp
theorem repr_is {d : D} {S : List Box} {w : Str} (h : fRepr [.v d] S = some (.str w)) : w = rp d := by
  unfold fRepr at h
  dsimp only at h
  have e : uPy (.v d) S = toPy d := rfl
  rw [e] at h
  unfold rp
  cases q : toPy d with
  | none => rw [q] at h; cases h
  | some p =>
    rw [q, Option.bind_some] at h
    split at h
    · cases h; rfl
    · cases h
theorem told_rp {z : Str} (hz : okZ z) (S : List Box) : fRepr [.v (toldD z)] S = some (.str (rp (toldD z))) := by
  obtain ⟨w, h⟩ := told_repr hz S
  rw [repr_is h] at h
  exact h
theorem tup_rp {n : Nat} (hn : n ≤ 100) {xs : List D} (h : okD n (.tup xs)) (hs : shl (.tup xs) ≤ 10000000) (S : List Box) : fRepr [.v (.tup xs)] S = some (.str (rp (.tup xs))) := by
  obtain ⟨p, h1, h2, h3⟩ := okD_py h
  obtain ⟨s1, s2⟩ := shown_le h h1
  have hp : isRef p = true := by
    have h1 : (toPyL xs).map PyData.tuple = some p := h1
    cases q : toPyL xs with
    | none => rw [q] at h1; cases h1
    | some ps => rw [q] at h1; cases h1; rfl
  have hu : uPy (.v (.tup xs)) S = some p := h1
  have e : fRepr [.v (.tup xs)] S = some (.str p.shown) := by
    unfold fRepr
    dsimp only
    rw [hu, Option.bind_some, if_pos]
    have h16 : sizeLine = 16777216 := sizeLine_eq
    exact ⟨s2, ⟨hp, by omega⟩, by omega⟩
  rw [e, repr_is e]
/-! ## spoilt texts -/
theorem cut_sub {z : Str} {lo hi : Option Int} : (∀ c ∈ cs (cutS z lo hi), c ∈ cs z) ∧ (cutS z lo hi).length ≤ z.length := by
  refine ⟨fun c hc => List.mem_of_mem_drop (List.mem_of_mem_take hc), ?_⟩
  show ((z.cps.toList.drop _).take _).toArray.size ≤ _
  rw [List.size_toArray, List.length_take, List.length_drop]
  have : z.cps.toList.length = z.length := Array.length_toList
  omega
theorem nobad_of {z : Str} (h : (!(Builtin.Str.occurrences z "bad" 0 z.length 1).isEmpty) = false) : nobad z := fun a b e => by
  have h2 : ¬ ((!(Builtin.Str.occurrences z "bad" 0 z.length 1).isEmpty) = true) := by rw [h]; exact Bool.false_ne_true
  refine h2 ((StrLaws.found_iff z "bad").mpr ⟨a, ?_⟩)
  have e1 : ((cs z).drop a).take (b - a) = [98, 97, 100] := by
    have := congrArg cs e
    rw [mid_cs] at this
    exact this
  have hlen : (((cs z).drop a).take (b - a)).length = 3 := by rw [e1]; rfl
  rw [List.length_take, List.length_drop, cs_length] at hlen
  have e3 : ((cs z).drop a).take 3 = [98, 97, 100] := by
    have e4 : (((cs z).drop a).take (b - a)).take 3 = [98, 97, 100] := by rw [e1]; rfl
    rw [List.take_take, Nat.min_eq_left (by omega)] at e4
    exact e4
  have bl : (Str.ofString "bad" : Str).length = 3 := rfl
  refine ⟨by rw [bl]; omega, ?_⟩
  unfold Builtin.Str.subAt
  rw [beq_iff_eq, bl]
  refine Array.toList_inj.mp ?_
  rw [Array.toList_extract]
  show List.extract (cs z) a (a + 3) = [98, 97, 100]
  rw [List.extract_eq_take_drop, Nat.add_sub_cancel_left]
  exact e3
noncomputable def c_inner (Fd : CF) : CS :=
  (sSeq (sSet 7 (cBin dMod (cFun fInt [(cCall Fnx [(cVar 1)])]) (cBin dAdd (cFun fLen [(cVar 5)]) (cK (.int 1)))))
    (sSeq (sSet 8 (cBin dMod (cFun fInt [(cCall Fnx [(cVar 1)])]) (cK (.int 2))))
    (sSeq (sSet 9 (cCall Fpk [(cVar 1), (cVal (cLst [(cK (.str "")), (cK (.str " ")), (cK (.str "(")), (cK (.str ")")), (cK (.str "-")), (cK (.str "0")), (cK (.str "7")), (cK (.str "a")), (cK (.str ".")), (cK (.str "A")), (cK (.str "_")), (cK (.str "\t"))]))]))
    (sSeq (sSet 10 (cBin dAdd (cBin dAdd (cSl slS (cVar 5) pNo (pSm (cVar 7))) (cVar 9)) (cSl slS (cVar 5) (pSm (cBin dAdd (cVar 7) (cVar 8))) pNo)))
    (sIf (bAnd (bOf (cBin (dInS true) (cK (.str "bad")) (cVar 10))) (bOf (cBin (dEq true) (cFun fRepr [(cCall Ftd [(cVar 10)])]) (cFun fRepr [(cCall Fd [(cVar 10)])])))) (sRet (cK (.bl false))) sNext)))))
def signs : List D := [.str "", .str " ", .str "(", .str ")", .str "-", .str "0", .str "7", .str "a", .str ".", .str "A", .str "_", .str "\t"]
theorem sign_ok : ∀ d ∈ signs, ∃ x : Str, d = .str x ∧ x.length ≤ 1 ∧ ∀ c ∈ cs x, c < 128 := by
  intro d hd
  simp only [signs, List.mem_cons, List.not_mem_nil, or_false] at hd
  rcases hd with h | h | h | h | h | h | h | h | h | h | h | h <;> exact ⟨_, h, by decide, by decide⟩
theorem inner_step {n : Nat} (hn : 49 ≤ n) {z : Str} (hz : ∀ c ∈ cs z, c < 128) (hl : z.length ≤ 40000) (u0 u2 u3 u4 : U) (x6 : U) (x7 x8 x9 x10 x11 x12 x13 x14 : Option U) {S : List Box} (hd : Dr 20000 1 S) :
    ∃ y7 y8 y9 y10 S', c_inner (Fdu n) [some u0, some (.b 1), some u2, some u3, some u4, some (.v (.str z)), some x6, x7, x8, x9, x10, x11, x12, x13] S =
      .nx [some u0, some (.b 1), some u2, some u3, some u4, some (.v (.str z)), some x6, y7, y8, y9, y10, x11, x12, x13] S' ∧ Dr 20000 1 S' := by
  have h16 : sizeLine = 16777216 := sizeLine_eq
  have hs : z.length ≤ sizeLine := by omega
  obtain ⟨v1, S1, e1, d1, _, _⟩ := nx_eq hd
  obtain ⟨v2, S2, e2, d2, _, _⟩ := nx_eq d1
  obtain ⟨d, S3, hmem, e3, d3⟩ := pk_eq (xs := signs) d2 (by simp [signs]) (by simp [signs])
  obtain ⟨x, rfl, hx1, hx2⟩ := sign_ok d hmem
  have hp : (0 : Int) < (z.length : Int) + 1 := by omega
  generalize ha : v1 % ((z.length : Int) + 1) = a
  generalize hb : v2 % 2 = b
  obtain ⟨c1, l1⟩ := cut_sub (z := z) (lo := none) (hi := some a)
  obtain ⟨c2, l2⟩ := cut_sub (z := z) (lo := some (a + b)) (hi := none)
  generalize hA : cutS z none (some a) = A at c1 l1
  generalize hB : cutS z (some (a + b)) none = B at c2 l2
  have la : (A ++ x).length = A.length + x.length := strLen_append _ _
  have lb : ((A ++ x) ++ B).length = A.length + x.length + B.length := by rw [strLen_append, la]
  have f1 : A.length + x.length ≤ sizeLine := by omega
  have f2 : (A ++ x).length + B.length ≤ sizeLine := by omega
  generalize hsp : (A ++ x) ++ B = sp at lb
  have hch : ∀ c ∈ cs sp, c < 128 := fun c hc => by
    rw [← hsp] at hc
    have hc : c ∈ TL.tl ((A ++ x) ++ B) := hc
    rw [TL.tl_append, TL.tl_append] at hc
    rcases List.mem_append.mp hc with hc | hc
    · rcases List.mem_append.mp hc with hc | hc
      · exact hz c (c1 c hc)
      · exact hx2 c hc
    · exact hz c (c2 c hc)
  refine ⟨some (.v (.int a)), some (.v (.int b)), some (.v (.str x)), some (.v (.str sp)), S3, ?_, d3⟩
  have sg : (cVal (cLst [(cK (.str "")), (cK (.str " ")), (cK (.str "(")), (cK (.str ")")), (cK (.str "-")), (cK (.str "0")), (cK (.str "7")), (cK (.str "a")), (cK (.str ".")), (cK (.str "A")), (cK (.str "_")), (cK (.str "	"))])) = fun ρ S => .ok (.v (.lst signs)) S := by
    funext ρ S
    rfl
  have hin : dInS true (.v (.str "bad")) (.v (.str sp)) S3 = some (.bl (true != (!(Builtin.Str.occurrences sp "bad" 0 sp.length 1).isEmpty))) := rfl
  unfold c_inner
  rw [sg]
  generalize hsg : signs = sgs at e3
  cases ho : (!(Builtin.Str.occurrences sp "bad" 0 sp.length 1).isEmpty) with
  | true =>
    rw [ho] at hin
    simp [fin, sSeq, sIf, sSet, setU, cVar, cK, cBin, cFun, evL, bOf, bRes, bAnd, bOr, bTru, bTruR, dTru, opt, Res.bind, Res.st, notO, sNext, sRet, retR, cVal, cLst, lstR, pures, cIf, fInt, dMod, dMul, dAdd, dSub, dCmpI, eq_int, eq_str, cCall, callR, cSl, slS, pSm, pIntR, pNo, e1, e2, e3, fLen, hs, hp, ha, hb, hA, hB, f1, f2, hsp, hin]
  | false =>
    rw [ho] at hin
    have nb := nobad_of ho
    have okz : okZ sp := ⟨⟨by omega, fun c hc => by have := hch c hc; omega⟩, nb, by omega⟩
    have t1 := td_eq okz.t S3
    have t2 := du_eq okz n hn S3
    have t3 := told_rp okz S3
    simp [fin, sSeq, sIf, sSet, setU, cVar, cK, cBin, cFun, evL, bOf, bRes, bAnd, bOr, bTru, bTruR, dTru, opt, Res.bind, Res.st, notO, sNext, sRet, retR, cVal, cLst, lstR, pures, cIf, fInt, dMod, dMul, dAdd, dSub, dCmpI, eq_int, eq_str, cCall, callR, cSl, slS, pSm, pIntR, pNo, e1, e2, e3, fLen, hs, hp, ha, hb, hA, hB, f1, f2, hsp, hin, t1, t2, t3]
end Rn
set_option Elab.async false
set_option linter.all false
set_option maxRecDepth 100000
set_option maxHeartbeats 8000000
namespace Rn
open PySem L2 PyProof.Rows
theorem inner_loop {n : Nat} (hn : 49 ≤ n) {z : Str} (hz : ∀ c ∈ cs z, c < 128) (hl : z.length ≤ 40000) (u0 u2 u3 u4 : U) (x11 x12 x13 : Option U) : ∀ (ds : List D) (x6 x7 x8 x9 x10 : Option U) (S : List Box), Dr 20000 1 S →
    ∃ y6 y7 y8 y9 y10 S', forF (.nm 6) (c_inner (Fdu n)) ds [some u0, some (.b 1), some u2, some u3, some u4, some (.v (.str z)), x6, x7, x8, x9, x10, x11, x12, x13] S =
      .nx [some u0, some (.b 1), some u2, some u3, some u4, some (.v (.str z)), y6, y7, y8, y9, y10, x11, x12, x13] S' ∧ Dr 20000 1 S'
  | [], x6, x7, x8, x9, x10, S, hd => ⟨x6, x7, x8, x9, x10, S, rfl, hd⟩
  | d :: ds, x6, x7, x8, x9, x10, S, hd => by
    obtain ⟨y7, y8, y9, y10, S1, e1, d1⟩ := inner_step hn hz hl u0 u2 u3 u4 (.v d) x7 x8 x9 x10 x11 x12 x13 none hd
    obtain ⟨z6, z7, z8, z9, z10, S2, e2, d2⟩ := inner_loop hn hz hl u0 u2 u3 u4 x11 x12 x13 ds (some (.v d)) y7 y8 y9 y10 S1 d1
    refine ⟨z6, z7, z8, z9, z10, S2, ?_, d2⟩
    unfold forF
    have hp : Tgt.put (.nm 6) d [some u0, some (.b 1), some u2, some u3, some u4, some (.v (.str z)), x6, x7, x8, x9, x10, x11, x12, x13] = some [some u0, some (.b 1), some u2, some u3, some u4, some (.v (.str z)), some (.v d), x7, x8, x9, x10, x11, x12, x13] := rfl
    rw [hp]
    dsimp only
    rw [e1]
    exact e2
noncomputable def c_turn (m n : Nat) : CS :=
  (sSeq (sSet 4 (cCall (Fte m) [(cVar 1), (cK (.int 0))]))
    (sSeq (sSet 5 (cCall (FX m) [(cVar 4)]))
    (sSeq (sIf (bOr (bOf (cBin (dEq true) (cCall (FTT m) [(cVar 4)]) (cVar 5))) (bOf (cBin (dEq true) (cFun fRepr [(cCall Ftd [(cVar 5)])]) (cFun fRepr [(cVal (cLst [(cK (.str "term")), (cVar 4)]))])))) (sRet (cK (.bl false))) sNext)
    (sSeq (sIf (bAnd (bTru (cFun fIsi [(cVar 4), (cK (.ty "tuple"))])) (bOf (cBin (dEq true) (cCall (FTT m) [(cFun fLst [(cVar 4)])]) (cVar 5)))) (sRet (cK (.bl false))) sNext)
    (sFor (cRng1 [(cK (.int 5))]) (.nm 6) (c_inner (Fdu n)))))))
theorem turn_step {m n : Nat} (hm : 5 ≤ m) (hn : 49 ≤ n) (u0 u2 u3 : U) (x4 x5 x6 x7 x8 x9 x10 x11 x12 x13 : Option U) {S : List Box} (hd : Dr 20000 1 S) :
    ∃ y4 y5 y6 y7 y8 y9 y10 S', c_turn m n [some u0, some (.b 1), some u2, some u3, x4, x5, x6, x7, x8, x9, x10, x11, x12, x13] S =
      .nx [some u0, some (.b 1), some u2, some u3, y4, y5, y6, y7, y8, y9, y10, x11, x12, x13] S' ∧ Dr 20000 1 S' := by
  obtain ⟨d, S1, e1, d1, hg⟩ := te_eq 4 m (Nat.le_refl _) (by omega) hd
  have e1 : Fte m [.b 1, .v (.int 0)] S = .ok (.v d) S1 := e1
  have e2 := FX_eq 4 m d S1 hg (Nat.le_refl _) (by omega)
  obtain ⟨e3, e4⟩ := FTT_eq 4 m d S1 hg (Nat.le_refl _) (by omega)
  have okz := tx_okZ hg
  have t1 := td_eq okz.t S1
  have t3 := told_rp okz S1
  rw [told_tx hg] at t1 t3
  have hlen : (mk (tx d)).length ≤ 40000 := by
    have := (tx_len hg).1
    show (tx d).toArray.size ≤ _
    rw [List.size_toArray]
    have e : bnd 4 = 1901 := by decide
    omega
  obtain ⟨y6, y7, y8, y9, y10, S2, e5, d2⟩ := inner_loop hn (z := mk (tx d)) (fun c hc => (tx_ok hg c hc).1) hlen u0 u2 u3 (.v d) x11 x12 x13 (rngD 0 5) x6 x7 x8 x9 x10 S1 d1
  have k1 : kitB "str" "tuple" = some false := by decide +kernel
  have k2 : kitB "NoneType" "tuple" = some false := by decide +kernel
  have k3 : kitB "int" "tuple" = some false := by decide +kernel
  have k4 : kitB "tuple" "tuple" = some true := by decide +kernel
  have rg : ∀ ρ : Env, cRng1 [(cK (.int 5))] ρ S1 = .ok (rngD 0 5) S1 := fun ρ => by
    simp [cRng1, evL, cK, Res.bind, itR1]
  refine ⟨some (.v d), some (.v (.str (mk (tx d)))), y6, y7, y8, y9, y10, S2, ?_, d2⟩
  have tde : tD d = .str (mk (tx d)) := rfl
  rw [tde] at e2 e3 e4
  generalize mk (tx d) = tt at e2 e3 e4 t1 e5 ⊢
  unfold c_turn
  generalize c_inner (Fdu n) = cI at e5 ⊢
  cases d with
  | tup xs =>
    have e4 := e4 xs rfl
    have fl : fLst [.v (.tup xs)] S1 = some (.lst xs) := rfl
    simp [fin, sSeq, sIf, sSet, setU, cVar, cK, cBin, cFun, evL, bOf, bRes, bAnd, bOr, bTru, bTruR, dTru, opt, Res.bind, Res.st, notO, sNext, sRet, retR, cVal, cLst, lstR, pures, cIf, eq_str, cCall, callR, fIsi, tyU, tyD, e1, e2, e3, e4, fl, t1, t3, k4, sFor, rg, e5]
  | non => simp [fin, sSeq, sIf, sSet, setU, cVar, cK, cBin, cFun, evL, bOf, bRes, bAnd, bOr, bTru, bTruR, dTru, opt, Res.bind, Res.st, notO, sNext, sRet, retR, cVal, cLst, lstR, pures, cIf, eq_str, cCall, callR, fIsi, tyU, tyD, e1, e2, e3, t1, t3, k2, sFor, rg, e5]
  | int i => simp [fin, sSeq, sIf, sSet, setU, cVar, cK, cBin, cFun, evL, bOf, bRes, bAnd, bOr, bTru, bTruR, dTru, opt, Res.bind, Res.st, notO, sNext, sRet, retR, cVal, cLst, lstR, pures, cIf, eq_str, cCall, callR, fIsi, tyU, tyD, e1, e2, e3, t1, t3, k3, sFor, rg, e5]
  | str x => simp [fin, sSeq, sIf, sSet, setU, cVar, cK, cBin, cFun, evL, bOf, bRes, bAnd, bOr, bTru, bTruR, dTru, opt, Res.bind, Res.st, notO, sNext, sRet, retR, cVal, cLst, lstR, pures, cIf, eq_str, cCall, callR, fIsi, tyU, tyD, e1, e2, e3, t1, t3, k1, sFor, rg, e5]
  | bl _ => exact hg.elim
  | lst _ => exact hg.elim
  | con _ => exact hg.elim
  | ty _ => exact hg.elim
  | fn _ => exact hg.elim
theorem turns_loop {m n : Nat} (hm : 5 ≤ m) (hn : 49 ≤ n) (u0 u2 : U) (x11 x12 x13 : Option U) : ∀ (ds : List D) (x3 x4 x5 x6 x7 x8 x9 x10 : Option U) (S : List Box), Dr 20000 1 S →
    ∃ y3 y4 y5 y6 y7 y8 y9 y10 S', forF (.nm 3) (c_turn m n) ds [some u0, some (.b 1), some u2, x3, x4, x5, x6, x7, x8, x9, x10, x11, x12, x13] S =
      .nx [some u0, some (.b 1), some u2, y3, y4, y5, y6, y7, y8, y9, y10, x11, x12, x13] S' ∧ Dr 20000 1 S'
  | [], x3, x4, x5, x6, x7, x8, x9, x10, S, hd => ⟨x3, x4, x5, x6, x7, x8, x9, x10, S, rfl, hd⟩
  | d :: ds, x3, x4, x5, x6, x7, x8, x9, x10, S, hd => by
    obtain ⟨y4, y5, y6, y7, y8, y9, y10, S1, e1, d1⟩ := turn_step hm hn u0 u2 (.v d) x4 x5 x6 x7 x8 x9 x10 x11 x12 x13 hd
    obtain ⟨z3, z4, z5, z6, z7, z8, z9, z10, S2, e2, d2⟩ := turns_loop hm hn u0 u2 x11 x12 x13 ds (some (.v d)) y4 y5 y6 y7 y8 y9 y10 S1 d1
    refine ⟨z3, z4, z5, z6, z7, z8, z9, z10, S2, ?_, d2⟩
    unfold forF
    have hp : Tgt.put (.nm 3) d [some u0, some (.b 1), some u2, x3, x4, x5, x6, x7, x8, x9, x10, x11, x12, x13] = some [some u0, some (.b 1), some u2, some (.v d), x4, x5, x6, x7, x8, x9, x10, x11, x12, x13] := rfl
    rw [hp]
    dsimp only
    rw [e1]
    exact e2
end Rn
set_option Elab.async false
set_option linter.all false
set_option maxRecDepth 100000
set_option maxHeartbeats 8000000
namespace Rn
open PySem L2 PyProof.Rows
def rep (n c : Nat) : List Nat := List.replicate n c
def deepT : Str := mk (rep 24 40 ++ [53] ++ rep 24 41)
def texts0 : List Str := ["", "(", "()", "( )", "(1 )", "(1  2)", "(1 2", "1 2", "-0", "00", "01", "-", mk (rep 20 49), mk (rep 21 49), mk (45 :: rep 21 57), deepT, mk (40 :: (rep 24 40 ++ [53] ++ rep 24 41) ++ [41]), "()()", "(a.)", "5a", "a5"]
def texts1 : List Str := ["none", "..", ")"]
def strD (l : List Str) : List D := l.map .str
theorem deep_eq (ρ : Env) (S : List Box) : (cBin dAdd (cBin dAdd (cBin dRepS (cK (.str "(")) (cK (.int 24))) (cK (.str "5"))) (cBin dRepS (cK (.str ")")) (cK (.int 24)))) ρ S = .ok (.v (.str deepT)) S := by kernel_rfl
theorem texts0_eq (x0 x1 x2 x3 x4 x5 x6 x7 x8 x9 x10 x12 x13 : Option U) (S : List Box) : (cVal (cLst [(cK (.str "")), (cK (.str "(")), (cK (.str "()")), (cK (.str "( )")), (cK (.str "(1 )")), (cK (.str "(1  2)")), (cK (.str "(1 2")), (cK (.str "1 2")), (cK (.str "-0")), (cK (.str "00")), (cK (.str "01")), (cK (.str "-")), (cBin dRepS (cK (.str "1")) (cK (.int 20))), (cBin dRepS (cK (.str "1")) (cK (.int 21))), (cBin dAdd (cK (.str "-")) (cBin dRepS (cK (.str "9")) (cK (.int 21)))), (cVar 11), (cBin dAdd (cBin dAdd (cK (.str "(")) (cVar 11)) (cK (.str ")"))), (cK (.str "()()")), (cK (.str "(a.)")), (cK (.str "5a")), (cK (.str "a5"))])) [x0, x1, x2, x3, x4, x5, x6, x7, x8, x9, x10, some (.v (.str deepT)), x12, x13] S = .ok (.v (.lst (strD texts0))) S := by kernel_rfl
theorem texts1_eq (x0 x1 x2 x3 x4 x5 x6 x7 x8 x9 x10 x11 x13 : Option U) (S : List Box) : (cVal (cCat (cVar 12) (cVal (cLst [(cK (.str "none")), (cK (.str "..")), (cK (.str ")"))])))) [x0, x1, x2, x3, x4, x5, x6, x7, x8, x9, x10, x11, some (.v (.lst (strD texts0))), x13] S = .ok (.v (.lst (strD (texts0 ++ texts1)))) S := by kernel_rfl
theorem texts_ok : ∀ t ∈ texts0 ++ texts1, (∀ c ∈ cs t, c < 128 ∧ c ≠ 100) ∧ t.length ≤ 100000 := by decide +kernel
theorem texts_rp : ∀ t ∈ texts0 ++ texts1, PyData.strOk (rp (toldD t)) = true := by decide +kernel
/-! ## lists of texts -/
theorem py_strs : ∀ ws : List Str, toPyL (strD ws) = some (ws.map PyData.str)
  | [] => rfl
  | w :: ws => by
    show (match toPy (.str w), toPyL (strD ws) with | some e, some es => some (e :: es) | _, _ => none) = _
    rw [py_strs ws]
    rfl
theorem depth_strs : ∀ ws : List Str, PyData.depthAll (ws.map PyData.str) = 0
  | [] => rfl
  | w :: ws => by
    simp only [List.map_cons, PyData.depthAll, depth_strs ws, PyData.depth]
    rfl
theorem eqv_strs : ∀ ws : List Str, PyData.eqvAll (ws.map PyData.str) (ws.map PyData.str) = true
  | [] => rfl
  | w :: ws => by
    show (PyData.eqv (.str w) (.str w) && PyData.eqvAll (ws.map PyData.str) (ws.map PyData.str)) = true
    rw [eqv_strs ws]
    show ((w == w) && true) = true
    rw [beq_self_eq_true]
    rfl
theorem eq_lists (ws : List Str) (h : ∀ w ∈ ws, PyData.strOk w = true) (neg : Bool) (S : List Box) : dEq neg (.v (.lst (strD ws))) (.v (.lst (strD ws))) S = some (.bl (neg != true)) := by
  have hu : uPy (.v (.lst (strD ws))) S = some (.list (ws.map PyData.str)) := by
    show (toPyL (strD ws)).map PyData.list = _
    rw [py_strs]
    rfl
  have hs : SeqAt.shaped (.list (ws.map PyData.str)) = true := by
    unfold SeqAt.shaped
    show (PyData.canLayAll0 (ws.map .str) && decide (PyData.depth (.list (ws.map PyData.str)) ≤ 64)) = true
    rw [PyProof.Rows.canLayAll_strs', List.all_eq_true.mpr h]
    simp only [PyData.depth, depth_strs]
    rfl
  rw [dEq_of S neg hu hu hs hs]
  show some (D.bl (neg != PyData.eqvAll (ws.map PyData.str) (ws.map PyData.str))) = _
  rw [eqv_strs]
/-! ## the texts told -/
def gR : D → D
  | .str t => .str (rp (toldD t))
  | d => d
theorem told_list (n : Nat) (hn : 49 ≤ n) (x0 x1 x2 x3 x4 x5 x6 x7 x8 x9 x10 x11 x13 : Option U) (S : List Box) :
    (cVal (cLc (cIt itL (cVar 12)) (.nm 5) bYes (cFun fRepr [(cCall Ftd [(cVar 5)])]) [5])) [x0, x1, x2, x3, x4, x5, x6, x7, x8, x9, x10, x11, some (.v (.lst (strD (texts0 ++ texts1)))), x13] S = .ok (.v (.lst ((strD (texts0 ++ texts1)).map gR))) S ∧
    (cVal (cLc (cIt itL (cVar 12)) (.nm 5) bYes (cFun fRepr [(cCall (Fdu n) [(cVar 5)])]) [5])) [x0, x1, x2, x3, x4, x5, x6, x7, x8, x9, x10, x11, some (.v (.lst (strD (texts0 ++ texts1)))), x13] S = .ok (.v (.lst ((strD (texts0 ++ texts1)).map gR))) S := by
  have el : ∀ d ∈ strD (texts0 ++ texts1), ∃ t : Str, d = .str t ∧ okZ t := fun d hd => by
    obtain ⟨t, ht, e⟩ := List.mem_map.mp hd
    have := texts_ok t ht
    exact ⟨t, e.symm, okZ_of this.1 this.2⟩
  have len : ([] : List D).length + (strD (texts0 ++ texts1)).length ≤ sizeLine := by decide +kernel
  generalize strD (texts0 ++ texts1) = L at el len ⊢
  have b1 := lc_map (e := (cFun fRepr [(cCall Ftd [(cVar 5)])])) (ρ := [x0, x1, x2, x3, x4, none, x6, x7, x8, x9, x10, x11, some (.v (.lst L)), x13]) (S := S) (i := 5) gR L [] (Nat.le_of_ble_eq_true rfl) (fun d hd => by
    obtain ⟨t, rfl, hz⟩ := el d hd
    have t1 := td_eq hz.t S
    have t3 := told_rp hz S
    simp [cFun, evL, cCall, callR, cVar, Res.bind, notO, t1, t3, opt, gR]) len
  have b2 := lc_map (e := (cFun fRepr [(cCall (Fdu n) [(cVar 5)])])) (ρ := [x0, x1, x2, x3, x4, none, x6, x7, x8, x9, x10, x11, some (.v (.lst L)), x13]) (S := S) (i := 5) gR L [] (Nat.le_of_ble_eq_true rfl) (fun d hd => by
    obtain ⟨t, rfl, hz⟩ := el d hd
    have t1 := du_eq hz n hn S
    have t3 := told_rp hz S
    simp [cFun, evL, cCall, callR, cVar, Res.bind, notO, t1, t3, opt, gR]) len
  have sr : (cIt itL (cVar 12)) [x0, x1, x2, x3, x4, x5, x6, x7, x8, x9, x10, x11, some (.v (.lst L)), x13] S = .ok L S := rfl
  have wp : wipeU [x0, x1, x2, x3, x4, x5, x6, x7, x8, x9, x10, x11, some (.v (.lst L)), x13] [5] = [x0, x1, x2, x3, x4, none, x6, x7, x8, x9, x10, x11, some (.v (.lst L)), x13] := rfl
  constructor
  · simp only [cVal, cLc, sr, Res.bind, wp, b1, List.nil_append]
  · simp only [cVal, cLc, sr, Res.bind, wp, b2, List.nil_append]
theorem gR_strs (ts : List Str) : (strD ts).map gR = strD (ts.map fun t => rp (toldD t)) := by
  unfold strD
  rw [List.map_map, List.map_map]
  rfl
theorem told_same (S : List Box) : dEq true (.v (.lst ((strD (texts0 ++ texts1)).map gR))) (.v (.lst ((strD (texts0 ++ texts1)).map gR))) S = some (.bl false) := by
  rw [gR_strs]
  exact eq_lists _ (fun w hw => by
    obtain ⟨t, ht, e⟩ := List.mem_map.mp hw
    rw [← e]
    exact texts_rp t ht) true S
end Rn
set_option Elab.async false
set_option linter.all false
set_option maxRecDepth 100000
set_option maxHeartbeats 400000
namespace Rn
open PySem L2 PyProof.Rows
/-! ## 4000 figures -/
theorem mul_l (G : Int) (S : List Box) : dMul (.v (.int 10)) (.v (.int G)) S = some (.int (10 * G)) := by
  show (if (-(2 ^ 64) < (10 : Int) ∧ (10 : Int) < 2 ^ 64) ∨ (-(2 ^ 64) < G ∧ G < 2 ^ 64) then some (D.int (10 * G)) else none) = _
  rw [if_pos (.inl (by decide))]
theorem mul_r (G : Int) (S : List Box) : dMul (.v (.int G)) (.v (.int 10)) S = some (.int (G * 10)) := by
  show (if (-(2 ^ 64) < G ∧ G < 2 ^ 64) ∨ (-(2 ^ 64) < (10 : Int) ∧ (10 : Int) < 2 ^ 64) then some (D.int (G * 10)) else none) = _
  rw [if_pos (.inr (by decide))]
theorem great_loop (x0 x1 x2 x4 x5 x6 x7 x8 x9 x10 x11 x12 : Option U) (S : List Box) : ∀ (ds : List D) (G : Nat) (x3 : Option U),
    ∃ (y3 : Option U) (B : Nat), forF (.nm 3) (sSet 13 (cBin dMul (cK (.int 10)) (cVar 13))) ds [x0, x1, x2, x3, x4, x5, x6, x7, x8, x9, x10, x11, x12, some (.v (.int (G : Int)))] S = .nx [x0, x1, x2, y3, x4, x5, x6, x7, x8, x9, x10, x11, x12, some (.v (.int (B : Int)))] S ∧ B = G * 10 ^ ds.length
  | [], G, x3 => ⟨x3, G, rfl, by rw [List.length_nil, Nat.pow_zero, Nat.mul_one]⟩
  | d :: ds, G, x3 => by
    obtain ⟨y3, B, e, hB⟩ := great_loop x0 x1 x2 x4 x5 x6 x7 x8 x9 x10 x11 x12 S ds (G * 10) (some (.v d))
    refine ⟨y3, B, ?_, by rw [hB, List.length_cons, Nat.pow_succ, Nat.mul_assoc, Nat.mul_comm 10]⟩
    unfold forF
    have hp : Tgt.put (.nm 3) d [x0, x1, x2, x3, x4, x5, x6, x7, x8, x9, x10, x11, x12, some (.v (.int (G : Int)))] = some [x0, x1, x2, some (.v d), x4, x5, x6, x7, x8, x9, x10, x11, x12, some (.v (.int (G : Int)))] := rfl
    have st : (sSet 13 (cBin dMul (cK (.int 10)) (cVar 13))) [x0, x1, x2, some (.v d), x4, x5, x6, x7, x8, x9, x10, x11, x12, some (.v (.int (G : Int)))] S = .nx [x0, x1, x2, some (.v d), x4, x5, x6, x7, x8, x9, x10, x11, x12, some (.v (.int ((G * 10 : Nat) : Int)))] S := by
      have ec : ((G * 10 : Nat) : Int) = 10 * (G : Int) := by omega
      rw [ec]
      simp [sSet, setU, cBin, cK, cVar, Res.bind, Res.st, mul_l, opt, notO]
    rw [hp]
    dsimp only
    rw [st]
    exact e
theorem aug_st (u0 x2 : Option U) (G : Int) (S : List Box) : (sAug 1 dMul (cK (.int 10))) [u0, some (.v (.int G)), x2] S = .nx [u0, some (.v (.int (G * 10))), x2] S := by
  have h := mul_r G S
  unfold sAug
  generalize dMul = dM at h ⊢
  show (match (some (some (U.v (.int G))) : Option (Option U)) with
    | some (some x) => ((cK (.int 10)) [u0, some (.v (.int G)), x2] S).st [u0, some (.v (.int G)), x2] fun y S1 => (opt (dM x y S1) S1).st [u0, some (.v (.int G)), x2] fun d S2 => setU 1 d [u0, some (.v (.int G)), x2] S2
    | _ => .no) = _
  dsimp only
  unfold cK Res.st
  dsimp only
  rw [h]
  rfl
theorem bound_loop (u0 : Option U) (S : List Box) (c : CS)
    (hc : ∀ (G : Int) (x2 : Option U), c [u0, some (.v (.int G)), x2] S = .nx [u0, some (.v (.int (G * 10))), x2] S) (ds : List D) : ∀ (G : Nat) (x2 : Option U),
    ∃ (y2 : Option U) (B : Nat), forF (.nm 2) c ds [u0, some (.v (.int (G : Int))), x2] S = .nx [u0, some (.v (.int (B : Int))), y2] S ∧ B = G * 10 ^ ds.length := by
  induction ds with
  | nil => exact fun G x2 => ⟨x2, G, rfl, by rw [List.length_nil, Nat.pow_zero, Nat.mul_one]⟩
  | cons d ds ih =>
    intro G x2
    obtain ⟨y2, B, e, hB⟩ := ih (G * 10) (some (.v d))
    refine ⟨y2, B, ?_, by rw [hB, List.length_cons, Nat.pow_succ, Nat.mul_assoc, Nat.mul_comm 10]⟩
    unfold forF
    have hp : Tgt.put (.nm 2) d [u0, some (.v (.int (G : Int))), x2] = some [u0, some (.v (.int (G : Int))), some (.v d)] := rfl
    have ec : ((G * 10 : Nat) : Int) = (G : Int) * 10 := by omega
    rw [hp]
    dsimp only
    rw [hc (G : Int) (some (.v d)), ← ec]
    exact e
theorem nines (k : Nat) : TL.numL (10 ^ (k + 1) - 1) = rep (k + 1) 57 := by
  induction k with
  | zero => exact TL.numL_lt (by decide)
  | succ k ih =>
    have hp : 0 < 10 ^ (k + 1) := Nat.pow_pos (by decide)
    have e1 : 10 ^ (k + 2) = 10 ^ (k + 1) * 10 := Nat.pow_succ ..
    have e2 : (10 ^ (k + 2) - 1) / 10 = 10 ^ (k + 1) - 1 := by omega
    have e3 : (10 ^ (k + 2) - 1) % 10 = 9 := by omega
    have h10 : 10 ≤ 10 ^ (k + 2) - 1 := by omega
    rw [TL.numL_step h10, e2, e3, ih]
    unfold rep
    rw [← List.replicate_succ']
theorem cfun1 {o : OF} {a : CE} {ρ : Env} {S : List Box} {x : U} {u : D} (ha : a ρ S = .ok x S) (ho : o [x] S = some u) : cFun o [a] ρ S = .ok (.v u) S := by
  simp only [cFun, evL, ha, Res.bind, ho, opt]
theorem cbin1 {o : OD2} {a b : CE} {ρ : Env} {S : List Box} {x y : U} {u : D} (ha : a ρ S = .ok x S) (hb : b ρ S = .ok y S) (ho : o x y S = some u) : cBin o a b ρ S = .ok (.v u) S := by
  simp only [cBin, ha, hb, Res.bind, ho, opt]
theorem seq_nx {a b : CS} {ρ ρ' : Env} {S S' : List Box} (h : a ρ S = .nx ρ' S') : sSeq a b ρ S = b ρ' S' := by
  simp only [sSeq, h]
theorem if_no {t : CB} {a : CS} {ρ : Env} {S : List Box} (h : t ρ S = .ok false S) : sIf t a sNext ρ S = .nx ρ S := by
  simp only [sIf, h, Res.st, sNext, Bool.false_eq_true, if_false]
theorem if_yes {t : CB} {a b : CS} {ρ : Env} {S : List Box} (h : t ρ S = .ok true S) : sIf t a b ρ S = a ρ S := by
  simp only [sIf, h, Res.st, if_true]
theorem nottru {c : CE} {ρ : Env} {S : List Box} {x : U} {b : Bool} (h : c ρ S = .ok x S) (hb : dTru x S = some b) : bNot (bTru c) ρ S = .ok (!b) S := by
  simp only [bNot, bTru, h, Res.bind, bTruR, hb]
theorem ret1 {c : CE} {ρ : Env} {S : List Box} {x : U} (h : c ρ S = .ok x S) (hn : notO x = true) : sRet c ρ S = .rt x S := by
  simp only [sRet, h, Res.st, retR, hn, if_true]
theorem for1 {src : CI} {t : Tgt} {b : CS} {ρ : Env} {S : List Box} {ds : List D} (h : src ρ S = .ok ds S) : sFor src t b ρ S = forF t b ds ρ S := by
  simp only [sFor, h, Res.st]
theorem ht_core {i x q : Int} {B : Int} {r : Bool} {S : List Box} {y2 : Option U} (fa : fAbs [.v (.int i)] S = some (.int x)) (ds : dShr (.v (.int x)) (.v (.int 13287)) S = some (.int q)) (hq : (q != 0) = true)
    (e : forF (.nm 2) (sAug 1 dMul (cK (.int 10))) (rngD 0 4000) [some (.v (.int i)), some (.v (.int 1)), none] S = .nx [some (.v (.int i)), some (.v (.int B)), y2] S)
    (hc2 : dCmpI (fun i j => decide (i < j)) (.v (.int x)) (.v (.int B)) S = some (.bl r)) : Fht [.v (.int i)] S = .ok (.v (.bl r)) S := by
  have rg : ∀ ρ : Env, cRng1 [(cK (.int 4000))] ρ S = .ok (rngD 0 4000) S := fun ρ => by
    simp [cRng1, evL, cK, Res.bind, itR1]
  have t1 : ∀ (u1 u2 : Option U), cFun fAbs [(cVar 0)] [some (.v (.int i)), u1, u2] S = .ok (.v (.int x)) S := fun u1 u2 => cfun1 (x := .v (.int i)) rfl fa
  have s1 : (sIf (bNot (bTru (cBin dShr (cFun fAbs [(cVar 0)]) (cK (.int 13287))))) (sRet (cK (.bl true))) sNext) [some (.v (.int i)), none, none] S = .nx [some (.v (.int i)), none, none] S := by
    have := nottru (cbin1 (t1 none none) (show (cK (.int 13287)) [some (.v (.int i)), none, none] S = .ok (.v (.int 13287)) S from rfl) ds) (show dTru (.v (.int q)) S = some true from congrArg some hq)
    exact if_no this
  show fin (c_has_text [some (.v (.int i)), none, none] S) = _
  unfold c_has_text
  rw [seq_nx s1, seq_nx (show (sSet 1 (cK (.int 1))) [some (.v (.int i)), none, none] S = .nx [some (.v (.int i)), some (.v (.int 1)), none] S from rfl)]
  rw [seq_nx ((for1 (rg _)).trans e), ret1 (cbin1 (t1 _ _) (show (cVar 1) [some (.v (.int i)), some (.v (.int B)), y2] S = .ok (.v (.int B)) S from rfl) hc2) rfl]
  rfl
theorem shr_ne {n : Nat} {P : Int} (hp : 0 < P) (h : P ≤ (n : Int)) : ((n : Int) / P != 0) = true := by
  have h1 : (1 : Int) * P ≤ (n : Int) := by rw [Int.one_mul]; exact h
  have := Int.le_ediv_of_mul_le hp h1
  exact bne_iff_ne.mpr (by omega)
theorem shr_gen (x : Int) (k : Nat) (S : List Box) : dShr (.v (.int x)) (.v (.int (k : Int))) S = some (.int (x / 2 ^ k)) := by
  show (if 0 ≤ (k : Int) then some (D.int (x / 2 ^ (k : Int).toNat)) else none) = _
  rw [if_pos (Int.natCast_nonneg k), Int.toNat_natCast]
theorem dec_nat (a b : Nat) : decide ((a : Int) < (b : Int)) = decide (a < b) := by
  congr 1; exact propext (by omega)
theorem ht_bigG {i : Int} {k : Nat} (hk : ((k : Nat) : Int) = 13287) (h : 2 ^ k ≤ i.natAbs) (S : List Box) : Fht [.v (.int i)] S = .ok (.v (.bl (decide (i.natAbs < 1 * 10 ^ (rngD 0 4000).length)))) S := by
  have fa : fAbs [.v (.int i)] S = some (.int (i.natAbs : Int)) := by
    have e : (if i < 0 then -i else i) = (i.natAbs : Int) := by split <;> omega
    show some (D.int (if i < 0 then -i else i)) = _
    rw [e]
  have ds := shr_gen (i.natAbs : Int) k S
  have hp : (0 : Int) < 2 ^ k := Int.pow_pos (by decide)
  have hle : (2 : Int) ^ k ≤ (i.natAbs : Int) := by
    have : ((2 ^ k : Nat) : Int) ≤ (i.natAbs : Int) := Int.ofNat_le.mpr h
    rwa [Int.natCast_pow] at this
  have hq := shr_ne hp hle
  obtain ⟨y2, B, e, hB⟩ := bound_loop (some (.v (.int i))) S _ (fun G x2 => aug_st (some (.v (.int i))) x2 G S) (rngD 0 4000) 1 none
  rw [← hB]
  generalize (i.natAbs : Int) / 2 ^ k = q at hq ds
  rw [hk] at ds
  have hc := dec_nat i.natAbs B
  have hc2 : dCmpI (fun i j => decide (i < j)) (.v (.int (i.natAbs : Int))) (.v (.int (B : Int))) S = some (.bl (decide (i.natAbs < B))) := by
    show some (D.bl (decide ((i.natAbs : Int) < (B : Int)))) = _
    rw [hc]
  exact ht_core fa ds hq e hc2
end Rn
set_option Elab.async false
set_option linter.all false
set_option maxRecDepth 100000
set_option maxHeartbeats 400000
namespace Rn
open PySem L2 PyProof.Rows
def Frf (m : Nat) : CF := runF (n__law_refused : List Str).length (c_law_refused (FTT m))
theorem rf1 (S : List Box) : Frf 10 [.v (.str "none")] S = .ok (.v (.bl true)) S := by kernel_rfl
theorem rf2 (S : List Box) : Frf 10 [.v (.str "A")] S = .ok (.v (.bl true)) S := by kernel_rfl
theorem rf3 (S : List Box) : Frf 10 [.v (.str "a b")] S = .ok (.v (.bl true)) S := by kernel_rfl
theorem rf4 (S : List Box) : Frf 10 [.v (.tup [.str "ok", .str "x1"])] S = .ok (.v (.bl true)) S := by kernel_rfl
theorem rf5 (S : List Box) : Frf 10 [.v (.tup [.tup [.str "none"]])] S = .ok (.v (.bl true)) S := by kernel_rfl
theorem last_eq (x0 x1 x2 x3 x4 x5 x6 x7 x8 x9 x10 x11 x12 x13 : Option U) (S : List Box) : (cBin (dEq false) (cVal (cLc (cIt itL (cVal (cLst [(cK (.str "none")), (cK (.str "A")), (cK (.str "a b")), (cTup [(cK (.str "ok")), (cK (.str "x1"))]), (cTup [(cTup [(cK (.str "none"))])])]))) (.nm 4) bYes (cCall (Frf 10) [(cVar 4)]) [4])) (cVal (cRepL (cVal (cLst [(cK (.bl true))])) (cK (.int 5))))) [x0, x1, x2, x3, x4, x5, x6, x7, x8, x9, x10, x11, x12, x13] S = .ok (.v (.bl true)) S := by kernel_rfl
theorem tt_big {i : Int} {m : Nat} {S : List Box} (h : Fht [.v (.int i)] S = .ok (.v (.bl false)) S) : FTT (m + 1) [.v (.int i)] S = .ex ⟨1, []⟩ S := by
  have k21 : kitB "int" "int" = some true := by decide +kernel
  have k22 : kitB "int" "str" = some false := by decide +kernel
  show fin (c_term_text Fht (FTT m) [some (.v (.int i)), none, none] S) = _
  generalize Fht = F at h ⊢
  generalize FTT m = G
  simp [c_term_text, fin, sSeq, sIf, sSet, setU, cVar, cK, cBin, cFun, evL, bAnd, bOr, bNot, bTru, bTruR, dTru, bOf, bRes, opt, Res.bind, Res.st, notO, sNext, sRet, retR, cVal, cIf, cOr, dIsN, fIsi, tyU, tyD, k21, k22, cCall, callR, h, sRaise0]
theorem tt_int {i : Int} {m : Nat} {S : List Box} {z : Str} (h : Fht [.v (.int i)] S = .ok (.v (.bl true)) S) (hz : fStr [.v (.int i)] S = some (.str z)) : FTT (m + 1) [.v (.int i)] S = .ok (.v (.str z)) S := by
  have k21 : kitB "int" "int" = some true := by decide +kernel
  have k22 : kitB "int" "str" = some false := by decide +kernel
  show fin (c_term_text Fht (FTT m) [some (.v (.int i)), none, none] S) = _
  generalize Fht = F at h ⊢
  generalize FTT m = G
  unfold c_term_text
  generalize fStr = fS at hz ⊢
  simp [fin, sSeq, sIf, sSet, setU, cVar, cK, cBin, cFun, evL, bAnd, bOr, bNot, bTru, bTruR, dTru, bOf, bRes, opt, Res.bind, Res.st, notO, sNext, sRet, retR, cVal, cIf, cOr, dIsN, fIsi, tyU, tyD, k21, k22, cCall, callR, h, hz]
end Rn
set_option Elab.async false
set_option linter.all false
set_option maxRecDepth 100000
set_option maxHeartbeats 400000
namespace Rn
open PySem L2 PyProof.Rows
theorem fstr_big {i : Int} {k : Nat} (h : i.natAbs < 10 ^ k) (hk : k ≤ 4300) (S : List Box) : fStr [.v (.int i)] S = some (.str (mk (tx (.int i)))) := by
  have h2 : i.natAbs < 10 ^ 4300 := Nat.lt_of_lt_of_le h (Nat.pow_le_pow_right (by decide) hk)
  show (if i.natAbs < 10 ^ 4300 then some (D.str (toString i)) else none) = _
  rw [if_pos h2]
  rfl
theorem nat_pred {B k : Nat} (hB : B = 10 ^ (k + 1)) : ((B : Int) - 1).natAbs = B - 1 ∧ ((1 : Int) - (B : Int)).natAbs = B - 1 ∧ 0 < B ∧ (1 : Int) - (B : Int) < 0 ∧ ¬ ((B : Int) - 1 < 0) := by
  have hp : 10 ≤ B := by
    rw [hB, Nat.pow_succ]
    have := Nat.pow_pos (n := k) (show 0 < 10 by decide)
    omega
  clear hB
  omega
theorem tx_pos {B k : Nat} (hB : B = 10 ^ (k + 1)) : tx (.int ((B : Int) - 1)) = rep (k + 1) 57 := by
  obtain ⟨e1, e2, e3, e4, e5⟩ := nat_pred hB
  rcases int_cs ((B : Int) - 1) with ⟨h, _⟩ | ⟨_, h⟩
  · exact absurd h e5
  · rw [h, e1, hB, nines]
theorem tx_neg {B k : Nat} (hB : B = 10 ^ (k + 1)) : tx (.int (1 - (B : Int))) = 45 :: rep (k + 1) 57 := by
  obtain ⟨e1, e2, e3, e4, e5⟩ := nat_pred hB
  rcases int_cs (1 - (B : Int)) with ⟨_, h, _⟩ | ⟨h, _⟩
  · rw [h, e2, hB, nines]
  · exact absurd e4 (Int.not_lt.mpr h)
theorem big_lo : 2 ^ 13287 ≤ 10 ^ 4000 - 1 := by decide +kernel
theorem big_lo2 {j k : Nat} (hj : j = 13287) (hk : k + 1 = 4000) : 2 ^ j ≤ 10 ^ (k + 1) - 1 := by
  rw [hj, hk]
  exact big_lo
theorem rep9 {n : Nat} (h2 : 2 ≤ n) (hn : n ≤ 100000) (S : List Box) : dRepS (.v (.str "9")) (.v (.int (n : Int))) S = some (.str (mk (rep n 57))) := by
  show (if 2 ≤ (n : Int) ∧ (n : Int) ≤ 100000 ∧ 0 < ("9" : Str).length ∧ ("9" : Str).length ≤ 100 then some (D.str ⟨(List.replicate (n : Int).toNat [57]).flatten.toArray⟩) else none) = _
  rw [if_pos ⟨by omega, by omega, by decide, by decide⟩, Int.toNat_natCast, List.flatten_replicate_singleton]
  rfl
theorem len4 : (rngD 0 4000).length = 4000 := len_rng
theorem ht_b {i : Int} {B k j : Nat} (hB : B = 10 ^ (k + 1)) (hk : k + 1 = 4000) (hj : j = 13287) (h : B - 1 ≤ i.natAbs) (S : List Box) : Fht [.v (.int i)] S = .ok (.v (.bl (decide (i.natAbs < B)))) S := by
  have h1 := big_lo2 hj hk
  rw [← hB] at h1
  have h2 := ht_bigG (i := i) (k := j) (by rw [hj]; rfl) (Nat.le_trans h1 h) S
  rw [len4, ← hk, ← hB, Nat.one_mul] at h2
  exact h2
theorem big_pos {B k : Nat} (hB : B = 10 ^ (k + 1)) (hk : k + 1 = 4000) (m : Nat) (S : List Box) : FTT (m + 1) [.v (.int ((B : Int) - 1))] S = .ok (.v (.str (mk (rep 4000 57)))) S := by
  obtain ⟨e1, e2, e3, e4, e5⟩ := nat_pred hB
  have h := ht_b (i := (B : Int) - 1) hB hk rfl (by rw [e1]; exact Nat.le_refl _) S
  have hlt : B - 1 < B := by clear hB; omega
  rw [e1, decide_eq_true hlt] at h
  have f := fstr_big (i := (B : Int) - 1) (k := k + 1) (by rw [e1, ← hB]; exact hlt) (by rw [hk]; decide) S
  rw [tx_pos hB, hk] at f
  exact tt_int h f
theorem big_neg {B k : Nat} (hB : B = 10 ^ (k + 1)) (hk : k + 1 = 4000) (m : Nat) (S : List Box) : FTT (m + 1) [.v (.int (1 - (B : Int)))] S = .ok (.v (.str (mk (45 :: rep 4000 57)))) S := by
  obtain ⟨e1, e2, e3, e4, e5⟩ := nat_pred hB
  have h := ht_b (i := 1 - (B : Int)) hB hk rfl (by rw [e2]; exact Nat.le_refl _) S
  have hlt : B - 1 < B := by clear hB; omega
  rw [e2, decide_eq_true hlt] at h
  have f := fstr_big (i := 1 - (B : Int)) (k := k + 1) (by rw [e2, ← hB]; exact hlt) (by rw [hk]; decide) S
  rw [tx_neg hB, hk] at f
  exact tt_int h f
theorem big_ref {B k : Nat} (hB : B = 10 ^ (k + 1)) (hk : k + 1 = 4000) (m : Nat) (S : List Box) : Frf (m + 1) [.v (.int (B : Int))] S = .ok (.v (.bl true)) S := by
  have h := ht_b (i := (B : Int)) hB hk rfl (Nat.sub_le _ _) S
  rw [Int.natAbs_natCast, decide_eq_false (Nat.lt_irrefl _)] at h
  have f := tt_big (m := m) h
  show fin (c_law_refused (FTT (m + 1)) [some (.v (.int (B : Int)))] S) = _
  generalize FTT (m + 1) = G at f ⊢
  simp [c_law_refused, sTry, tryR, noX, sSeq, sExpr, cCall, callR, evL, cVar, Res.bind, Res.st, notO, f, sRet, retR, cK, fin]
end Rn
set_option Elab.async false
set_option linter.all false
set_option maxRecDepth 100000
set_option maxHeartbeats 400000
namespace Rn
open PySem L2 PyProof.Rows
theorem first_tt (S : List Box) : FTT 10 [.v (.tup [.tup [.int 1, .int 2], .tup [.int 1, .int 1]])] S = .ok (.v (.str "((1 2) (1 1))")) S := by kernel_rfl
theorem first_rp (ρ : Env) (S : List Box) : (cFun fRepr [(cTup [(cK (.str "")), (cK .non), (cTup [(cUn dNeg (cK (.int 5)))])])]) ρ S = .ok (.v (.str "('', None, (-5,))")) S := by kernel_rfl
theorem first_mrt (S : List Box) : Mrt [.v (.str "(. none (-5))")] S = .ok (.v (.tup [.str "", .non, .tup [.int (-5)]])) S := by
  have hz : okT "(. none (-5))" := by unfold okT; decide +kernel
  have ho : outRd "(. none (-5))" = .ok (.tup [.str "", .non, .tup [.int (-5)]]) 13 := by kernel_rfl
  have h : Mrt [.v (.str "(. none (-5))")] S = (match outRd "(. none (-5))" with
    | .ok d _ => .ok (.v d) S
    | .bad e => .ex ⟨2, [("at", .int (e : Int))]⟩ S) := if_pos hz
  rw [h, ho]
end Rn
set_option Elab.async false
set_option linter.all false
set_option maxRecDepth 100000
set_option maxHeartbeats 1000000
namespace Rn
open PySem L2 PyProof.Rows
/-! ## the law's own body -/
theorem set_nx {i : Nat} {c : CE} {ρ ρ' : Env} {S S' : List Box} {u : U} (h : c ρ S = .ok u S') (hs : setU i u ρ S' = .nx ρ' S') : sSet i c ρ S = .nx ρ' S' := by
  simp only [sSet, h, Res.st, hs]
theorem call1 {F : CF} {a : CE} {ρ : Env} {S S' : List Box} {u v : U} (ha : a ρ S = .ok u S) (hn : notO u = true) (h : F [u] S = .ok v S') : cCall F [a] ρ S = .ok v S' := by
  simp only [cCall, evL, ha, Res.bind, callR, List.all_cons, List.all_nil, hn, Bool.and_self, if_true, h]
theorem call2 {F : CF} {a b : CE} {ρ : Env} {S S' : List Box} {u v w : U} (ha : a ρ S = .ok u S) (hn : notO u = true) (hb : b ρ S = .ok v S) (hm : notO v = true) (h : F [u, v] S = .ok w S') : cCall F [a, b] ρ S = .ok w S' := by
  simp only [cCall, evL, ha, hb, Res.bind, callR, List.all_cons, List.all_nil, hn, hm, Bool.and_self, if_true, h]
theorem or_no {x y : CB} {ρ : Env} {S : List Box} {b : Bool} (hx : x ρ S = .ok false S) (hy : y ρ S = .ok b S) : bOr x y ρ S = .ok b S := by
  simp only [bOr, hx, hy, Res.bind, Bool.false_eq_true, if_false]
theorem bof1 {c : CE} {ρ : Env} {S : List Box} {b : Bool} (h : c ρ S = .ok (.v (.bl b)) S) : bOf c ρ S = .ok b S := by
  simp only [bOf, h, Res.bind, bRes]
theorem ne_str (z : Str) (S : List Box) : dEq true (.v (.str z)) (.v (.str z)) S = some (.bl false) := by
  rw [eq_str]
  simp

theorem st3 (u0 : U) (x3 x4 x5 x6 x7 x8 x9 x10 x11 x12 x13 : Option U) (S : List Box) : (sIf (bOr (bOf (cBin (dEq true) (cCall (FTT 10) [(cVar 2)]) (cK (.str "((1 2) (1 1))")))) (bOf (cBin (dEq true) (cFun fRepr [(cCall Mrt [(cK (.str "(. none (-5))"))])]) (cFun fRepr [(cTup [(cK (.str "")), (cK .non), (cTup [(cUn dNeg (cK (.int 5)))])])])))) (sRet (cK (.bl false))) sNext) [some u0, some (.b 1), some (.v (.tup [.tup [.int 1, .int 2], .tup [.int 1, .int 1]])), x3, x4, x5, x6, x7, x8, x9, x10, x11, x12, x13] S = .nx [some u0, some (.b 1), some (.v (.tup [.tup [.int 1, .int 2], .tup [.int 1, .int 1]])), x3, x4, x5, x6, x7, x8, x9, x10, x11, x12, x13] S := by
  have p2 := first_mrt S
  have p1 := first_tt S
  generalize FTT 10 = F at p1 ⊢
  generalize Mrt = G at p2 ⊢
  refine if_no (or_no (bof1 (cbin1 (call1 rfl rfl p1) rfl (ne_str _ _))) (bof1 (cbin1 (cfun1 (call1 rfl rfl p2) (u := .str "('', None, (-5,))") (by kernel_rfl)) (first_rp _ S) (ne_str _ _))))
theorem st8 (x0 x1 x2 x3 x4 x5 x6 x7 x8 x9 x10 x11 x13 : Option U) (S : List Box) : (sIf (bOf (cBin (dEq true) (cVal (cLc (cIt itL (cVar 12)) (.nm 5) bYes (cFun fRepr [(cCall Ftd [(cVar 5)])]) [5])) (cVal (cLc (cIt itL (cVar 12)) (.nm 5) bYes (cFun fRepr [(cCall (Fdu 49) [(cVar 5)])]) [5])))) (sRet (cK (.bl false))) sNext) [x0, x1, x2, x3, x4, x5, x6, x7, x8, x9, x10, x11, some (.v (.lst (strD (texts0 ++ texts1)))), x13] S = .nx [x0, x1, x2, x3, x4, x5, x6, x7, x8, x9, x10, x11, some (.v (.lst (strD (texts0 ++ texts1)))), x13] S := by
  obtain ⟨p1, p2⟩ := told_list 49 (Nat.le_refl _) x0 x1 x2 x3 x4 x5 x6 x7 x8 x9 x10 x11 x13 S
  exact if_no (bof1 (cbin1 p1 p2 (told_same S)))
theorem add9 (S : List Box) : dAdd (.v (.str "-")) (.v (.str (mk (rep 4000 57)))) S = some (.str (mk (45 :: rep 4000 57))) := by
  have hl : (mk (rep 4000 57)).length = 4000 := List.length_replicate
  have h1 : ("-" : Str).length = 1 := rfl
  show (if ("-" : Str).length + (mk (rep 4000 57)).length ≤ sizeLine then some (D.str (("-" : Str) ++ mk (rep 4000 57))) else none) = _
  rw [if_pos (by rw [hl, h1, sizeLine_eq]; decide)]
  generalize rep 4000 57 = l
  show some (D.str ⟨#[45] ++ l.toArray⟩) = some (D.str ⟨(45 :: l).toArray⟩)
  simp
theorem st11 {B k : Nat} (hB : B = 10 ^ (k + 1)) (hk : k + 1 = 4000) (x0 x1 x2 x3 x4 x5 x6 x7 x8 x9 x10 x11 x12 : Option U) (S : List Box) : (sIf (bOr (bOf (cBin (dEq true) (cCall (FTT 10) [(cBin dSub (cVar 13) (cK (.int 1)))]) (cBin dRepS (cK (.str "9")) (cK (.int 4000))))) (bOr (bOf (cBin (dEq true) (cCall (FTT 10) [(cBin dSub (cK (.int 1)) (cVar 13))]) (cBin dAdd (cK (.str "-")) (cBin dRepS (cK (.str "9")) (cK (.int 4000)))))) (bNot (bTru (cCall (Frf 10) [(cVar 13)]))))) (sRet (cK (.bl false))) sNext) [x0, x1, x2, x3, x4, x5, x6, x7, x8, x9, x10, x11, x12, some (.v (.int (B : Int)))] S = .nx [x0, x1, x2, x3, x4, x5, x6, x7, x8, x9, x10, x11, x12, some (.v (.int (B : Int)))] S := by
  have p1 := big_pos hB hk 9 S
  have p2 := big_neg hB hk 9 S
  have p3 := big_ref hB hk 9 S
  have r9 := rep9 (n := 4000) (by decide) (by decide) S
  have a9 := add9 S
  have v13 : (cVar 13) [x0, x1, x2, x3, x4, x5, x6, x7, x8, x9, x10, x11, x12, some (.v (.int (B : Int)))] S = .ok (.v (.int (B : Int))) S := rfl
  clear hB hk
  generalize FTT (9 + 1) = F at p1 p2
  generalize Frf (9 + 1) = G at p3
  generalize mk (rep 4000 57) = z at p1 r9 a9
  generalize mk (45 :: rep 4000 57) = y at p2 a9
  generalize [x0, x1, x2, x3, x4, x5, x6, x7, x8, x9, x10, x11, x12, some (.v (.int (B : Int)))] = ρ at v13 ⊢
  have n3 := nottru (call1 v13 rfl p3) (show dTru (.v (.bl true)) S = some true from rfl)
  exact if_no (or_no (bof1 (cbin1 (call1 (cbin1 v13 rfl rfl) rfl p1) (cbin1 rfl rfl r9) (ne_str _ _))) (or_no (bof1 (cbin1 (call1 (cbin1 rfl v13 rfl) rfl p2) (cbin1 rfl (cbin1 rfl rfl r9) a9) (ne_str _ _))) n3))
noncomputable def F_law : CF := runF (n_law : List Str).length (c_law Fdr Fmo (FTT 10) Mrt (Fte 10) (FX 10) Ftd Fnx Fpk (Fdu 49) (Frf 10))
theorem law_true (ns : List Int) (h : ns.length ≤ 63) : ∃ S, F_law [.v (.con (ns.map .int))] [] = .ok (.v (.bl true)) S := by
  obtain ⟨S1, e1, d1⟩ := dr_eq ns h
  obtain ⟨S2, e2, d2⟩ := mo_eq d1
  obtain ⟨y3, y4, y5, y6, y7, y8, y9, y10, S3, e3, d3⟩ := turns_loop (m := 10) (n := 49) (by decide) (by decide) (.v (.con (im ns))) (.v (.tup [.tup [.int 1, .int 2], .tup [.int 1, .int 1]])) none none none (rngD 0 4) none none none none none none none none S2 d2
  obtain ⟨z3, B, e4, hB⟩ := great_loop (some (.v (.con (im ns)))) (some (.b 1)) (some (.v (.tup [.tup [.int 1, .int 2], .tup [.int 1, .int 1]]))) y4 y5 y6 y7 y8 y9 y10 (some (.v (.str deepT))) (some (.v (.lst (strD (texts0 ++ texts1))))) S3 (rngD 0 4000) 1 y3
  have hB : ∃ k, k + 1 = 4000 ∧ B = 10 ^ (k + 1) := ⟨3999, rfl, by rw [hB, len4, Nat.one_mul]⟩
  obtain ⟨k, hk, hB⟩ := hB
  refine ⟨S3, ?_⟩
  show fin (c_law Fdr Fmo (FTT 10) Mrt (Fte 10) (FX 10) Ftd Fnx Fpk (Fdu 49) (Frf 10) [some (.v (.con (im ns))), none, none, none, none, none, none, none, none, none, none, none, none, none] []) = _
  unfold c_law
  rw [seq_nx (set_nx (call1 rfl rfl e1) rfl)]
  rw [seq_nx (set_nx (call2 rfl rfl rfl rfl e2) rfl)]
  rw [seq_nx (set_nx (ρ' := [some (.v (.con (im ns))), some (.b 1), some (.v (.tup [.tup [.int 1, .int 2], .tup [.int 1, .int 1]])), none, none, none, none, none, none, none, none, none, none, none]) (u := .v (.tup [.tup [.int 1, .int 2], .tup [.int 1, .int 1]])) rfl rfl)]
  rw [seq_nx (st3 (.v (.con (im ns))) none none none none none none none none none none none S2)]
  have r4 : ∀ ρ : Env, cRng1 [(cK (.int 4))] ρ S2 = .ok (rngD 0 4) S2 := fun ρ => rfl
  have r5 : ∀ ρ : Env, cRng1 [(cK (.int 4000))] ρ S3 = .ok (rngD 0 4000) S3 := fun ρ => by simp [cRng1, evL, cK, Res.bind, itR1]
  unfold c_turn c_inner at e3
  rw [seq_nx ((for1 (r4 _)).trans e3)]
  rw [seq_nx (set_nx (ρ' := [some (.v (.con (im ns))), some (.b 1), some (.v (.tup [.tup [.int 1, .int 2], .tup [.int 1, .int 1]])), y3, y4, y5, y6, y7, y8, y9, y10, some (.v (.str deepT)), none, none]) (deep_eq _ _) rfl)]
  rw [seq_nx (set_nx (ρ' := [some (.v (.con (im ns))), some (.b 1), some (.v (.tup [.tup [.int 1, .int 2], .tup [.int 1, .int 1]])), y3, y4, y5, y6, y7, y8, y9, y10, some (.v (.str deepT)), some (.v (.lst (strD texts0))), none]) (texts0_eq _ _ _ _ _ _ _ _ _ _ _ _ _ _) rfl)]
  rw [seq_nx (set_nx (ρ' := [some (.v (.con (im ns))), some (.b 1), some (.v (.tup [.tup [.int 1, .int 2], .tup [.int 1, .int 1]])), y3, y4, y5, y6, y7, y8, y9, y10, some (.v (.str deepT)), some (.v (.lst (strD (texts0 ++ texts1)))), none]) (texts1_eq _ _ _ _ _ _ _ _ _ _ _ _ _ _) rfl)]
  rw [seq_nx (st8 _ _ _ _ _ _ _ _ _ _ _ _ _ _)]
  rw [seq_nx (set_nx (ρ' := [some (.v (.con (im ns))), some (.b 1), some (.v (.tup [.tup [.int 1, .int 2], .tup [.int 1, .int 1]])), y3, y4, y5, y6, y7, y8, y9, y10, some (.v (.str deepT)), some (.v (.lst (strD (texts0 ++ texts1)))), some (.v (.int ((1 : Nat) : Int)))]) (u := .v (.int 1)) rfl rfl)]
  rw [seq_nx ((for1 (r5 _)).trans e4)]
  rw [seq_nx (st11 hB hk _ _ _ _ _ _ _ _ _ _ _ _ _ _)]
  rw [ret1 (last_eq _ _ _ _ _ _ _ _ _ _ _ _ _ _ _) rfl]
  rfl
end Rn
set_option Elab.async false
set_option linter.all false
set_option maxRecDepth 100000
set_option maxHeartbeats 8000000
namespace Rn
open PySem L2 PyProof.Rows
/-! ## the chain of promises -/
section
variable {P : Program} {w : World} {K : PySem.W.Frag} {mg : Str → Option Value} {base : Heap} {a : Ad}
abbrev At (P : Program) (w : World) (K : PySem.W.Frag) (mg : Str → Option Value) (base : Heap) (a : Ad) (k : Nat) (f : Addr) (fd : FuncData) (ps : List Str) (F : CF) : Prop :=
  FnOk P w K mg base (L2.CX P w) k f fd ps (spV ⟨K, a.cm⟩ ps.length F)
theorem g_mal (T : Txt K mg a) {k : Nat} (hk : 1 ≤ k) : FnOk P w K mg base (L2.CX P w) k a.f_Malformed__init a.d_Malformed__init p_Malformed___init__ (spI a.a_Malformed "at") :=
  (ok_Malformed__init (k := 0) T).mono hk
theorem g_ht (T : Txt K mg a) {k : Nat} (hk : 1 ≤ k) : At P w K mg base a k a.f_has_text a.d_has_text p_has_text Fht := (ok_has_text (k := 0) T).mono hk
theorem g_tt (T : Txt K mg a) (nd : base.NoDigits) : ∀ m, At P w K mg base a (m + 1) a.f_term_text a.d_term_text p_term_text (FTT m)
  | 0 => fn_no
  | m + 1 => ok_term_text T nd (g_ht T (by omega)) (g_tt T nd m)
theorem g_ini (T : Txt K mg a) {k : Nat} (hk : 1 ≤ k) : At P w K mg base a k a.f_Reading__init a.d_Reading__init p_Reading___init__ Fini := (ok_Reading__init (k := 0) T).mono hk
theorem g_ns (T : Txt K mg a) {k : Nat} (hk : 1 ≤ k) : At P w K mg base a k a.f_Reading_next_sign a.d_Reading_next_sign p_Reading_next_sign Fns := (ok_Reading_next_sign (k := 0) T).mono hk
theorem g_ia (T : Txt K mg a) {k : Nat} (hk : 2 ≤ k) : At P w K mg base a k a.f_Reading_is_at a.d_Reading_is_at p_Reading_is_at Fia := (ok_Reading_is_at (k := 1) T (g_ns T (by decide))).mono hk
theorem g_tk (T : Txt K mg a) {k : Nat} (hk : 3 ≤ k) : At P w K mg base a k a.f_Reading_take a.d_Reading_take p_Reading_take Ftk := (ok_Reading_take (k := 2) T (g_ia T (by decide))).mono hk
theorem g_int (T : Txt K mg a) {k : Nat} (hk : 4 ≤ k) : At P w K mg base a k a.f_Reading_integer a.d_Reading_integer p_Reading_integer Fint := (ok_Reading_integer (k := 2) T (g_ia T (by decide)) (g_mal T (by decide)) (g_tk T (by decide))).mono hk
theorem g_rd (T : Txt K mg a) : ∀ n, At P w K mg base a (n + 4) a.f_Reading_term a.d_Reading_term p_Reading_term (FT n) ∧ At P w K mg base a (n + 4) a.f_Reading_told_rows a.d_Reading_told_rows p_Reading_told_rows (FR n)
  | 0 => ⟨fn_no, fn_no⟩
  | n + 1 => ⟨ok_Reading_term (k := n + 3) T (g_ia T (by omega)) (g_mal T (by omega)) (g_rd T n).2 (g_tk T (by omega)) (g_int T (by omega)), ok_Reading_told_rows (k := n + 3) T (g_ia T (by omega)) (g_mal T (by omega)) (g_rd T n).1⟩
theorem g_rt (T : Txt K mg a) : At P w K mg base a 54 a.f_read_term a.d_read_term p_read_term Mrt :=
  fn_mirG (F := Frt 49) (ok_read_term (k := 52) T (g_ini T (by decide)) (g_rd T 49).1 (g_mal T (by decide))) (rt_mir 49 (Nat.le_refl _))
theorem g_td (T : Txt K mg a) : At P w K mg base a 55 a.f_law_told a.d_law_told p__law_told Ftd := ok_law_told T (g_rt T)
theorem g_ln (T : Txt K mg a) {k : Nat} (hk : 1 ≤ k) : At P w K mg base a k a.f_law_number a.d_law_number p__law_number Fln := (ok_law_number (k := 0) T).mono hk
theorem g_dr (T : Txt K mg a) {k : Nat} (hk : 2 ≤ k) : At P w K mg base a k a.f_law_draws a.d_law_draws p__law_draws Fdr := (ok_law_draws (k := 1) T (g_ln T (by decide))).mono hk
theorem g_nx (T : Txt K mg a) {k : Nat} (hk : 1 ≤ k) : At P w K mg base a k a.f_law_next a.d_law_next p__law_next Fnx := (ok_law_next (k := 0) T).mono hk
theorem g_mo (T : Txt K mg a) {k : Nat} (hk : 2 ≤ k) : At P w K mg base a k a.f_law_more a.d_law_more p__law_more Fmo := (ok_law_more (k := 1) T (g_nx T (by decide))).mono hk
theorem g_pk (T : Txt K mg a) {k : Nat} (hk : 2 ≤ k) : At P w K mg base a k a.f_law_pick a.d_law_pick p__law_pick Fpk := (ok_law_pick (k := 1) T (g_nx T (by decide))).mono hk
theorem g_te (T : Txt K mg a) : ∀ n, At P w K mg base a (n + 2) a.f_law_term a.d_law_term p__law_term (Fte n)
  | 0 => fn_no
  | n + 1 => ok_law_term T (g_nx T (by omega)) (g_pk T (by omega)) (g_te T n)
theorem g_fx (T : Txt K mg a) (nd : base.NoDigits) : ∀ n, At P w K mg base a n a.f_law_text a.d_law_text p__law_text (FX n)
  | 0 => fn_no
  | n + 1 => ok_law_text T nd (g_fx T nd n)
theorem g_li (T : Txt K mg a) {k : Nat} (hk : 1 ≤ k) : At P w K mg base a k a.f_law_integer a.d_law_integer p__law_integer Fli := (ok_law_integer (k := 0) T).mono hk
theorem g_lr (T : Txt K mg a) : ∀ n, At P w K mg base a (n + 1) a.f_law_read a.d_law_read p__law_read (FLR n) ∧ At P w K mg base a (n + 1) a.f_law_entries a.d_law_entries p__law_entries (FLE n)
  | 0 => ⟨fn_no, fn_no⟩
  | n + 1 => ⟨ok_law_read T (g_lr T n).2 (g_li T (by omega)), ok_law_entries T (g_lr T n).1⟩
theorem g_du (T : Txt K mg a) : At P w K mg base a 51 a.f_law_due a.d_law_due p__law_due (Fdu 49) := ok_law_due T (g_lr T 49).1
theorem g_rf (T : Txt K mg a) (nd : base.NoDigits) : At P w K mg base a 12 a.f_law_refused a.d_law_refused p__law_refused (Frf 10) := ok_law_refused T (g_tt T nd 10)
theorem law_all (T : Txt K mg a) (nd : base.NoDigits) : FnL P w K mg base a.f_law a.d_law ["script"] (spV ⟨K, a.cm⟩ 1 F_law) :=
  ok_law (k := 60) ⟨rfl, by decide, by decide⟩ (Nat.le_refl _) T (g_dr T (by decide)) (g_mo T (by decide)) ((g_tt T nd 10).mono (by decide)) ((g_rt T).mono (by decide)) ((g_te T 10).mono (by decide)) ((g_fx T nd 10).mono (by decide))
    ((g_td T).mono (by decide)) (g_nx T (by decide)) (g_pk T (by decide)) ((g_du T).mono (by decide)) ((g_rf T nd).mono (by decide))
end
end Rn
set_option Elab.async false
set_option linter.all false
set_option maxRecDepth 100000
set_option maxHeartbeats 8000000
namespace Rn
open PySem L2 PyProof.Rows
/-- an error of the class at S is what «except S» names -/
theorem exm_self {K : PySem.W.Frag} {S : Addr} (h1 : PySem.W.subIn K (.ref S) (.type "BaseException") = some true) (h2 : PySem.W.isClsIn K S = true) (h3 : PySem.W.typeIn K (.ref S) = some (.type "type")) (h4 : PySem.W.subIn K (.ref S) (.ref S) = some true) :
    PySem.W.exmOne K (.ref S) (.ref S) = some true := by
  have h2 : (PySem.W.clsIn K S).isSome = true := h2
  unfold PySem.W.exmOne PySem.W.kitCls
  rw [h1]
  dsimp only
  rw [h3, h2, h4]
  rfl
/-- whatever the classes' places are -/
def spLaw (K : PySem.W.Frag) : Sp := fun vs H Q E => ∀ cm : Nat → Addr, spV ⟨K, cm⟩ 1 F_law vs H Q E
theorem txt_mk {K : PySem.W.Frag} {h : Heap} {mg : Str → Option Value} (X : K.In h) (G : h.Ns mainGlobals mg)
    {x_Malformed__init : Addr} {od_Malformed__init an_Malformed__init : Option Addr} {sl_Malformed__init : Array (Option Value)} {oc_Malformed__init kV_Malformed__init dc_Malformed__init pm_Malformed__init cd_Malformed__init ct_Malformed__init : Value}
    {x_has_text : Addr} {od_has_text an_has_text : Option Addr} {sl_has_text : Array (Option Value)} {oc_has_text kV_has_text dc_has_text pm_has_text cd_has_text ct_has_text : Value}
    {x_term_text : Addr} {od_term_text an_term_text : Option Addr} {sl_term_text : Array (Option Value)} {oc_term_text kV_term_text dc_term_text pm_term_text cd_term_text ct_term_text : Value}
    {x_Reading__init : Addr} {od_Reading__init an_Reading__init : Option Addr} {sl_Reading__init : Array (Option Value)} {oc_Reading__init kV_Reading__init dc_Reading__init pm_Reading__init cd_Reading__init ct_Reading__init : Value}
    {x_Reading_next_sign : Addr} {od_Reading_next_sign an_Reading_next_sign : Option Addr} {sl_Reading_next_sign : Array (Option Value)} {oc_Reading_next_sign kV_Reading_next_sign dc_Reading_next_sign pm_Reading_next_sign cd_Reading_next_sign ct_Reading_next_sign : Value}
    {x_Reading_is_at : Addr} {od_Reading_is_at an_Reading_is_at : Option Addr} {sl_Reading_is_at : Array (Option Value)} {oc_Reading_is_at kV_Reading_is_at dc_Reading_is_at pm_Reading_is_at cd_Reading_is_at ct_Reading_is_at : Value}
    {x_Reading_take : Addr} {od_Reading_take an_Reading_take : Option Addr} {sl_Reading_take : Array (Option Value)} {oc_Reading_take kV_Reading_take dc_Reading_take pm_Reading_take cd_Reading_take ct_Reading_take : Value}
    {x_Reading_integer : Addr} {od_Reading_integer an_Reading_integer : Option Addr} {sl_Reading_integer : Array (Option Value)} {oc_Reading_integer kV_Reading_integer dc_Reading_integer pm_Reading_integer cd_Reading_integer ct_Reading_integer : Value}
    {x_Reading_term : Addr} {od_Reading_term an_Reading_term : Option Addr} {sl_Reading_term : Array (Option Value)} {oc_Reading_term kV_Reading_term dc_Reading_term pm_Reading_term cd_Reading_term ct_Reading_term : Value}
    {x_Reading_told_rows : Addr} {od_Reading_told_rows an_Reading_told_rows : Option Addr} {sl_Reading_told_rows : Array (Option Value)} {oc_Reading_told_rows kV_Reading_told_rows dc_Reading_told_rows pm_Reading_told_rows cd_Reading_told_rows ct_Reading_told_rows : Value}
    {x_read_term : Addr} {od_read_term an_read_term : Option Addr} {sl_read_term : Array (Option Value)} {oc_read_term kV_read_term dc_read_term pm_read_term cd_read_term ct_read_term : Value}
    {x_law_number : Addr} {od_law_number an_law_number : Option Addr} {sl_law_number : Array (Option Value)} {oc_law_number kV_law_number dc_law_number pm_law_number cd_law_number ct_law_number : Value}
    {x_law_draws : Addr} {od_law_draws an_law_draws : Option Addr} {sl_law_draws : Array (Option Value)} {oc_law_draws kV_law_draws dc_law_draws pm_law_draws cd_law_draws ct_law_draws : Value}
    {x_law_next : Addr} {od_law_next an_law_next : Option Addr} {sl_law_next : Array (Option Value)} {oc_law_next kV_law_next dc_law_next pm_law_next cd_law_next ct_law_next : Value}
    {x_law_more : Addr} {od_law_more an_law_more : Option Addr} {sl_law_more : Array (Option Value)} {oc_law_more kV_law_more dc_law_more pm_law_more cd_law_more ct_law_more : Value}
    {x_law_pick : Addr} {od_law_pick an_law_pick : Option Addr} {sl_law_pick : Array (Option Value)} {oc_law_pick kV_law_pick dc_law_pick pm_law_pick cd_law_pick ct_law_pick : Value}
    {x_law_term : Addr} {od_law_term an_law_term : Option Addr} {sl_law_term : Array (Option Value)} {oc_law_term kV_law_term dc_law_term pm_law_term cd_law_term ct_law_term : Value}
    {x_law_text : Addr} {od_law_text an_law_text : Option Addr} {sl_law_text : Array (Option Value)} {oc_law_text kV_law_text dc_law_text pm_law_text cd_law_text ct_law_text : Value}
    {x_law_integer : Addr} {od_law_integer an_law_integer : Option Addr} {sl_law_integer : Array (Option Value)} {oc_law_integer kV_law_integer dc_law_integer pm_law_integer cd_law_integer ct_law_integer : Value}
    {x_law_read : Addr} {od_law_read an_law_read : Option Addr} {sl_law_read : Array (Option Value)} {oc_law_read kV_law_read dc_law_read pm_law_read cd_law_read ct_law_read : Value}
    {x_law_entries : Addr} {od_law_entries an_law_entries : Option Addr} {sl_law_entries : Array (Option Value)} {oc_law_entries kV_law_entries dc_law_entries pm_law_entries cd_law_entries ct_law_entries : Value}
    {x_law_due : Addr} {od_law_due an_law_due : Option Addr} {sl_law_due : Array (Option Value)} {oc_law_due kV_law_due dc_law_due pm_law_due cd_law_due ct_law_due : Value}
    {x_law_told : Addr} {od_law_told an_law_told : Option Addr} {sl_law_told : Array (Option Value)} {oc_law_told kV_law_told dc_law_told pm_law_told cd_law_told ct_law_told : Value}
    {x_law_refused : Addr} {od_law_refused an_law_refused : Option Addr} {sl_law_refused : Array (Option Value)} {oc_law_refused kV_law_refused dc_law_refused pm_law_refused cd_law_refused ct_law_refused : Value}
    {x_law : Addr} {od_law an_law : Option Addr} {sl_law : Array (Option Value)} {oc_law kV_law dc_law pm_law cd_law ct_law : Value}
    {y_RunError : Addr}
    {y_BadNumber : Addr}
    {y_Malformed : Addr}
    {y_Reading : Addr}
    {t_FIGURES : Nat}
    {t_MOST_BITS : Nat}
    {t_MOST_FIGURES : Nat}
    {t_MOST_OPEN : Nat}
    {t_MOST_TEXT : Nat}
    {t_NOBODY : Nat}
    {t_NOTHING : Nat}
    {t_SMALL : Nat}
    {nm_Malformed q_Malformed_ : Str} {N_Malformed : Addr} {bs_Malformed bm_Malformed : List Value} {sn_Malformed : List Str} {sub_Malformed : List Value} {ab_Malformed : Bool} {col_Malformed : Option Bool} {dd_Malformed : Option Addr} {m0_Malformed m1_Malformed m2_Malformed m3_Malformed m5_Malformed : Option Value}
    (g_RunError : PySem.W.nsIn K mainGlobals "RunError" = some (some (.ref y_RunError)))
    (g_BadNumber : PySem.W.nsIn K mainGlobals "BadNumber" = some (some (.ref y_BadNumber)))
    (g_Malformed : PySem.W.nsIn K mainGlobals "Malformed" = some (some (.ref y_Malformed)))
    (g_Reading : PySem.W.nsIn K mainGlobals "Reading" = some (some (.ref y_Reading)))
    (a_Malformed__init : PySem.W.findIn K (.ref y_Malformed) "__init__" = some (some (.ref x_Malformed__init)))
    (i_Malformed__init : PySem.W.isFn K (.ref x_Malformed__init) = true)
    (l_Malformed__init : K.lookup x_Malformed__init = some ⟨oc_Malformed__init, od_Malformed__init, .func (PySem.W.fnOf "__init__" "Malformed.__init__" (defArgs (inClass (top 3) 0)) (defBody (inClass (top 3) 0)) (defScope (inClass (top 3) 0)) .none kV_Malformed__init dc_Malformed__init pm_Malformed__init an_Malformed__init cd_Malformed__init ct_Malformed__init), sl_Malformed__init⟩)
    (c_Malformed__init : PySem.W.codeIn K cd_Malformed__init "Malformed.__init__" = true)
    (k_Malformed__init : PySem.W.keepIn K (.ref x_Malformed__init) = true)
    (a_has_text : PySem.W.nsIn K mainGlobals "has_text" = some (some (.ref x_has_text)))
    (l_has_text : K.lookup x_has_text = some ⟨oc_has_text, od_has_text, .func (PySem.W.fnOf "has_text" "has_text" (defArgs (top 13)) (defBody (top 13)) (defScope (top 13)) .none kV_has_text dc_has_text pm_has_text an_has_text cd_has_text ct_has_text), sl_has_text⟩)
    (c_has_text : PySem.W.codeIn K cd_has_text "has_text" = true)
    (k_has_text : PySem.W.keepIn K (.ref x_has_text) = true)
    (a_term_text : PySem.W.nsIn K mainGlobals "term_text" = some (some (.ref x_term_text)))
    (l_term_text : K.lookup x_term_text = some ⟨oc_term_text, od_term_text, .func (PySem.W.fnOf "term_text" "term_text" (defArgs (top 14)) (defBody (top 14)) (defScope (top 14)) .none kV_term_text dc_term_text pm_term_text an_term_text cd_term_text ct_term_text), sl_term_text⟩)
    (c_term_text : PySem.W.codeIn K cd_term_text "term_text" = true)
    (k_term_text : PySem.W.keepIn K (.ref x_term_text) = true)
    (a_Reading__init : PySem.W.findIn K (.ref y_Reading) "__init__" = some (some (.ref x_Reading__init)))
    (i_Reading__init : PySem.W.isFn K (.ref x_Reading__init) = true)
    (l_Reading__init : K.lookup x_Reading__init = some ⟨oc_Reading__init, od_Reading__init, .func (PySem.W.fnOf "__init__" "Reading.__init__" (defArgs (inClass (top 15) 0)) (defBody (inClass (top 15) 0)) (defScope (inClass (top 15) 0)) .none kV_Reading__init dc_Reading__init pm_Reading__init an_Reading__init cd_Reading__init ct_Reading__init), sl_Reading__init⟩)
    (c_Reading__init : PySem.W.codeIn K cd_Reading__init "Reading.__init__" = true)
    (k_Reading__init : PySem.W.keepIn K (.ref x_Reading__init) = true)
    (a_Reading_next_sign : PySem.W.findIn K (.ref y_Reading) "next_sign" = some (some (.ref x_Reading_next_sign)))
    (i_Reading_next_sign : PySem.W.isFn K (.ref x_Reading_next_sign) = true)
    (l_Reading_next_sign : K.lookup x_Reading_next_sign = some ⟨oc_Reading_next_sign, od_Reading_next_sign, .func (PySem.W.fnOf "next_sign" "Reading.next_sign" (defArgs (inClass (top 15) 1)) (defBody (inClass (top 15) 1)) (defScope (inClass (top 15) 1)) .none kV_Reading_next_sign dc_Reading_next_sign pm_Reading_next_sign an_Reading_next_sign cd_Reading_next_sign ct_Reading_next_sign), sl_Reading_next_sign⟩)
    (c_Reading_next_sign : PySem.W.codeIn K cd_Reading_next_sign "Reading.next_sign" = true)
    (k_Reading_next_sign : PySem.W.keepIn K (.ref x_Reading_next_sign) = true)
    (a_Reading_is_at : PySem.W.findIn K (.ref y_Reading) "is_at" = some (some (.ref x_Reading_is_at)))
    (i_Reading_is_at : PySem.W.isFn K (.ref x_Reading_is_at) = true)
    (l_Reading_is_at : K.lookup x_Reading_is_at = some ⟨oc_Reading_is_at, od_Reading_is_at, .func (PySem.W.fnOf "is_at" "Reading.is_at" (defArgs (inClass (top 15) 2)) (defBody (inClass (top 15) 2)) (defScope (inClass (top 15) 2)) .none kV_Reading_is_at dc_Reading_is_at pm_Reading_is_at an_Reading_is_at cd_Reading_is_at ct_Reading_is_at), sl_Reading_is_at⟩)
    (c_Reading_is_at : PySem.W.codeIn K cd_Reading_is_at "Reading.is_at" = true)
    (k_Reading_is_at : PySem.W.keepIn K (.ref x_Reading_is_at) = true)
    (a_Reading_take : PySem.W.findIn K (.ref y_Reading) "take" = some (some (.ref x_Reading_take)))
    (i_Reading_take : PySem.W.isFn K (.ref x_Reading_take) = true)
    (l_Reading_take : K.lookup x_Reading_take = some ⟨oc_Reading_take, od_Reading_take, .func (PySem.W.fnOf "take" "Reading.take" (defArgs (inClass (top 15) 3)) (defBody (inClass (top 15) 3)) (defScope (inClass (top 15) 3)) .none kV_Reading_take dc_Reading_take pm_Reading_take an_Reading_take cd_Reading_take ct_Reading_take), sl_Reading_take⟩)
    (c_Reading_take : PySem.W.codeIn K cd_Reading_take "Reading.take" = true)
    (k_Reading_take : PySem.W.keepIn K (.ref x_Reading_take) = true)
    (a_Reading_integer : PySem.W.findIn K (.ref y_Reading) "integer" = some (some (.ref x_Reading_integer)))
    (i_Reading_integer : PySem.W.isFn K (.ref x_Reading_integer) = true)
    (l_Reading_integer : K.lookup x_Reading_integer = some ⟨oc_Reading_integer, od_Reading_integer, .func (PySem.W.fnOf "integer" "Reading.integer" (defArgs (inClass (top 15) 4)) (defBody (inClass (top 15) 4)) (defScope (inClass (top 15) 4)) .none kV_Reading_integer dc_Reading_integer pm_Reading_integer an_Reading_integer cd_Reading_integer ct_Reading_integer), sl_Reading_integer⟩)
    (c_Reading_integer : PySem.W.codeIn K cd_Reading_integer "Reading.integer" = true)
    (k_Reading_integer : PySem.W.keepIn K (.ref x_Reading_integer) = true)
    (a_Reading_term : PySem.W.findIn K (.ref y_Reading) "term" = some (some (.ref x_Reading_term)))
    (i_Reading_term : PySem.W.isFn K (.ref x_Reading_term) = true)
    (l_Reading_term : K.lookup x_Reading_term = some ⟨oc_Reading_term, od_Reading_term, .func (PySem.W.fnOf "term" "Reading.term" (defArgs (inClass (top 15) 5)) (defBody (inClass (top 15) 5)) (defScope (inClass (top 15) 5)) .none kV_Reading_term dc_Reading_term pm_Reading_term an_Reading_term cd_Reading_term ct_Reading_term), sl_Reading_term⟩)
    (c_Reading_term : PySem.W.codeIn K cd_Reading_term "Reading.term" = true)
    (k_Reading_term : PySem.W.keepIn K (.ref x_Reading_term) = true)
    (a_Reading_told_rows : PySem.W.findIn K (.ref y_Reading) "told_rows" = some (some (.ref x_Reading_told_rows)))
    (i_Reading_told_rows : PySem.W.isFn K (.ref x_Reading_told_rows) = true)
    (l_Reading_told_rows : K.lookup x_Reading_told_rows = some ⟨oc_Reading_told_rows, od_Reading_told_rows, .func (PySem.W.fnOf "told_rows" "Reading.told_rows" (defArgs (inClass (top 15) 6)) (defBody (inClass (top 15) 6)) (defScope (inClass (top 15) 6)) .none kV_Reading_told_rows dc_Reading_told_rows pm_Reading_told_rows an_Reading_told_rows cd_Reading_told_rows ct_Reading_told_rows), sl_Reading_told_rows⟩)
    (c_Reading_told_rows : PySem.W.codeIn K cd_Reading_told_rows "Reading.told_rows" = true)
    (k_Reading_told_rows : PySem.W.keepIn K (.ref x_Reading_told_rows) = true)
    (a_read_term : PySem.W.nsIn K mainGlobals "read_term" = some (some (.ref x_read_term)))
    (l_read_term : K.lookup x_read_term = some ⟨oc_read_term, od_read_term, .func (PySem.W.fnOf "read_term" "read_term" (defArgs (top 16)) (defBody (top 16)) (defScope (top 16)) .none kV_read_term dc_read_term pm_read_term an_read_term cd_read_term ct_read_term), sl_read_term⟩)
    (c_read_term : PySem.W.codeIn K cd_read_term "read_term" = true)
    (k_read_term : PySem.W.keepIn K (.ref x_read_term) = true)
    (a_law_number : PySem.W.nsIn K mainGlobals "_law_number" = some (some (.ref x_law_number)))
    (l_law_number : K.lookup x_law_number = some ⟨oc_law_number, od_law_number, .func (PySem.W.fnOf "_law_number" "_law_number" (defArgs (top 18)) (defBody (top 18)) (defScope (top 18)) .none kV_law_number dc_law_number pm_law_number an_law_number cd_law_number ct_law_number), sl_law_number⟩)
    (c_law_number : PySem.W.codeIn K cd_law_number "_law_number" = true)
    (k_law_number : PySem.W.keepIn K (.ref x_law_number) = true)
    (a_law_draws : PySem.W.nsIn K mainGlobals "_law_draws" = some (some (.ref x_law_draws)))
    (l_law_draws : K.lookup x_law_draws = some ⟨oc_law_draws, od_law_draws, .func (PySem.W.fnOf "_law_draws" "_law_draws" (defArgs (top 19)) (defBody (top 19)) (defScope (top 19)) .none kV_law_draws dc_law_draws pm_law_draws an_law_draws cd_law_draws ct_law_draws), sl_law_draws⟩)
    (c_law_draws : PySem.W.codeIn K cd_law_draws "_law_draws" = true)
    (k_law_draws : PySem.W.keepIn K (.ref x_law_draws) = true)
    (a_law_next : PySem.W.nsIn K mainGlobals "_law_next" = some (some (.ref x_law_next)))
    (l_law_next : K.lookup x_law_next = some ⟨oc_law_next, od_law_next, .func (PySem.W.fnOf "_law_next" "_law_next" (defArgs (top 20)) (defBody (top 20)) (defScope (top 20)) .none kV_law_next dc_law_next pm_law_next an_law_next cd_law_next ct_law_next), sl_law_next⟩)
    (c_law_next : PySem.W.codeIn K cd_law_next "_law_next" = true)
    (k_law_next : PySem.W.keepIn K (.ref x_law_next) = true)
    (a_law_more : PySem.W.nsIn K mainGlobals "_law_more" = some (some (.ref x_law_more)))
    (l_law_more : K.lookup x_law_more = some ⟨oc_law_more, od_law_more, .func (PySem.W.fnOf "_law_more" "_law_more" (defArgs (top 21)) (defBody (top 21)) (defScope (top 21)) .none kV_law_more dc_law_more pm_law_more an_law_more cd_law_more ct_law_more), sl_law_more⟩)
    (c_law_more : PySem.W.codeIn K cd_law_more "_law_more" = true)
    (k_law_more : PySem.W.keepIn K (.ref x_law_more) = true)
    (a_law_pick : PySem.W.nsIn K mainGlobals "_law_pick" = some (some (.ref x_law_pick)))
    (l_law_pick : K.lookup x_law_pick = some ⟨oc_law_pick, od_law_pick, .func (PySem.W.fnOf "_law_pick" "_law_pick" (defArgs (top 22)) (defBody (top 22)) (defScope (top 22)) .none kV_law_pick dc_law_pick pm_law_pick an_law_pick cd_law_pick ct_law_pick), sl_law_pick⟩)
    (c_law_pick : PySem.W.codeIn K cd_law_pick "_law_pick" = true)
    (k_law_pick : PySem.W.keepIn K (.ref x_law_pick) = true)
    (a_law_term : PySem.W.nsIn K mainGlobals "_law_term" = some (some (.ref x_law_term)))
    (l_law_term : K.lookup x_law_term = some ⟨oc_law_term, od_law_term, .func (PySem.W.fnOf "_law_term" "_law_term" (defArgs (top 23)) (defBody (top 23)) (defScope (top 23)) .none kV_law_term dc_law_term pm_law_term an_law_term cd_law_term ct_law_term), sl_law_term⟩)
    (c_law_term : PySem.W.codeIn K cd_law_term "_law_term" = true)
    (k_law_term : PySem.W.keepIn K (.ref x_law_term) = true)
    (a_law_text : PySem.W.nsIn K mainGlobals "_law_text" = some (some (.ref x_law_text)))
    (l_law_text : K.lookup x_law_text = some ⟨oc_law_text, od_law_text, .func (PySem.W.fnOf "_law_text" "_law_text" (defArgs (top 24)) (defBody (top 24)) (defScope (top 24)) .none kV_law_text dc_law_text pm_law_text an_law_text cd_law_text ct_law_text), sl_law_text⟩)
    (c_law_text : PySem.W.codeIn K cd_law_text "_law_text" = true)
    (k_law_text : PySem.W.keepIn K (.ref x_law_text) = true)
    (a_law_integer : PySem.W.nsIn K mainGlobals "_law_integer" = some (some (.ref x_law_integer)))
    (l_law_integer : K.lookup x_law_integer = some ⟨oc_law_integer, od_law_integer, .func (PySem.W.fnOf "_law_integer" "_law_integer" (defArgs (top 25)) (defBody (top 25)) (defScope (top 25)) .none kV_law_integer dc_law_integer pm_law_integer an_law_integer cd_law_integer ct_law_integer), sl_law_integer⟩)
    (c_law_integer : PySem.W.codeIn K cd_law_integer "_law_integer" = true)
    (k_law_integer : PySem.W.keepIn K (.ref x_law_integer) = true)
    (a_law_read : PySem.W.nsIn K mainGlobals "_law_read" = some (some (.ref x_law_read)))
    (l_law_read : K.lookup x_law_read = some ⟨oc_law_read, od_law_read, .func (PySem.W.fnOf "_law_read" "_law_read" (defArgs (top 26)) (defBody (top 26)) (defScope (top 26)) .none kV_law_read dc_law_read pm_law_read an_law_read cd_law_read ct_law_read), sl_law_read⟩)
    (c_law_read : PySem.W.codeIn K cd_law_read "_law_read" = true)
    (k_law_read : PySem.W.keepIn K (.ref x_law_read) = true)
    (a_law_entries : PySem.W.nsIn K mainGlobals "_law_entries" = some (some (.ref x_law_entries)))
    (l_law_entries : K.lookup x_law_entries = some ⟨oc_law_entries, od_law_entries, .func (PySem.W.fnOf "_law_entries" "_law_entries" (defArgs (top 27)) (defBody (top 27)) (defScope (top 27)) .none kV_law_entries dc_law_entries pm_law_entries an_law_entries cd_law_entries ct_law_entries), sl_law_entries⟩)
    (c_law_entries : PySem.W.codeIn K cd_law_entries "_law_entries" = true)
    (k_law_entries : PySem.W.keepIn K (.ref x_law_entries) = true)
    (a_law_due : PySem.W.nsIn K mainGlobals "_law_due" = some (some (.ref x_law_due)))
    (l_law_due : K.lookup x_law_due = some ⟨oc_law_due, od_law_due, .func (PySem.W.fnOf "_law_due" "_law_due" (defArgs (top 28)) (defBody (top 28)) (defScope (top 28)) .none kV_law_due dc_law_due pm_law_due an_law_due cd_law_due ct_law_due), sl_law_due⟩)
    (c_law_due : PySem.W.codeIn K cd_law_due "_law_due" = true)
    (k_law_due : PySem.W.keepIn K (.ref x_law_due) = true)
    (a_law_told : PySem.W.nsIn K mainGlobals "_law_told" = some (some (.ref x_law_told)))
    (l_law_told : K.lookup x_law_told = some ⟨oc_law_told, od_law_told, .func (PySem.W.fnOf "_law_told" "_law_told" (defArgs (top 29)) (defBody (top 29)) (defScope (top 29)) .none kV_law_told dc_law_told pm_law_told an_law_told cd_law_told ct_law_told), sl_law_told⟩)
    (c_law_told : PySem.W.codeIn K cd_law_told "_law_told" = true)
    (k_law_told : PySem.W.keepIn K (.ref x_law_told) = true)
    (a_law_refused : PySem.W.nsIn K mainGlobals "_law_refused" = some (some (.ref x_law_refused)))
    (l_law_refused : K.lookup x_law_refused = some ⟨oc_law_refused, od_law_refused, .func (PySem.W.fnOf "_law_refused" "_law_refused" (defArgs (top 30)) (defBody (top 30)) (defScope (top 30)) .none kV_law_refused dc_law_refused pm_law_refused an_law_refused cd_law_refused ct_law_refused), sl_law_refused⟩)
    (c_law_refused : PySem.W.codeIn K cd_law_refused "_law_refused" = true)
    (k_law_refused : PySem.W.keepIn K (.ref x_law_refused) = true)
    (a_law : PySem.W.nsIn K mainGlobals "law" = some (some (.ref x_law)))
    (l_law : K.lookup x_law = some ⟨oc_law, od_law, .func (PySem.W.fnOf "law" "law" (defArgs (top 31)) (defBody (top 31)) (defScope (top 31)) .none kV_law dc_law pm_law an_law cd_law ct_law), sl_law⟩)
    (c_law : PySem.W.codeIn K cd_law "law" = true)
    (k_law : PySem.W.keepIn K (.ref x_law) = true)
    (v_FIGURES : PySem.W.nsIn K mainGlobals "FIGURES" = some (some (.str "0123456789" t_FIGURES)))
    (v_MOST_BITS : PySem.W.nsIn K mainGlobals "MOST_BITS" = some (some (.int 13287 t_MOST_BITS)))
    (v_MOST_FIGURES : PySem.W.nsIn K mainGlobals "MOST_FIGURES" = some (some (.int 20 t_MOST_FIGURES)))
    (v_MOST_OPEN : PySem.W.nsIn K mainGlobals "MOST_OPEN" = some (some (.int 24 t_MOST_OPEN)))
    (v_MOST_TEXT : PySem.W.nsIn K mainGlobals "MOST_TEXT" = some (some (.int 4000 t_MOST_TEXT)))
    (v_NOBODY : PySem.W.nsIn K mainGlobals "NOBODY" = some (some (.str "." t_NOBODY)))
    (v_NOTHING : PySem.W.nsIn K mainGlobals "NOTHING" = some (some (.str "none" t_NOTHING)))
    (v_SMALL : PySem.W.nsIn K mainGlobals "SMALL" = some (some (.str "abcdefghijklmnopqrstuvwxyz" t_SMALL)))
    (z_abs : PySem.W.nsIn K mainGlobals "abs" = some none)
    (z_all : PySem.W.nsIn K mainGlobals "all" = some none)
    (z_int : PySem.W.nsIn K mainGlobals "int" = some none)
    (z_isinstance : PySem.W.nsIn K mainGlobals "isinstance" = some none)
    (z_len : PySem.W.nsIn K mainGlobals "len" = some none)
    (z_list : PySem.W.nsIn K mainGlobals "list" = some none)
    (z_range : PySem.W.nsIn K mainGlobals "range" = some none)
    (z_repr : PySem.W.nsIn K mainGlobals "repr" = some none)
    (z_str : PySem.W.nsIn K mainGlobals "str" = some none)
    (z_tuple : PySem.W.nsIn K mainGlobals "tuple" = some none)
    (pg_Reading : PySem.W.plainGet K y_Reading Str.empty = true)
    (hd_Reading : PySem.W.hasDictIn K y_Reading = true)
    (po_Reading : PySem.W.plainOver K y_Reading = true)
    (sa_Reading : PySem.W.findIn K (.ref y_Reading) "__setattr__" = some (some (.builtin "object.__setattr__")))
    (mi_Reading : PySem.W.makesIn K y_Reading = true)
    (kC_Reading : PySem.W.keepIn K (.ref y_Reading) = true)
    (na_Reading_at : PySem.W.findIn K (.ref y_Reading) "at" = some none)
    (na_Reading_text : PySem.W.findIn K (.ref y_Reading) "text" = some none)
    (exC_BadNumber : PySem.W.subIn K (.ref y_BadNumber) (.type "BaseException") = some true)
    (tyC_BadNumber : PySem.W.typeIn K (.ref y_BadNumber) = some (.type "type"))
    (ke_BadNumber : PySem.W.keepIn K (.ref y_BadNumber) = true)
    (ic_BadNumber : PySem.W.isClsIn K y_BadNumber = true)
    (ss_BadNumber : PySem.W.subIn K (.ref y_BadNumber) (.ref y_BadNumber) = some true)
    (exC_Malformed : PySem.W.subIn K (.ref y_Malformed) (.type "BaseException") = some true)
    (tyC_Malformed : PySem.W.typeIn K (.ref y_Malformed) = some (.type "type"))
    (ke_Malformed : PySem.W.keepIn K (.ref y_Malformed) = true)
    (ic_Malformed : PySem.W.isClsIn K y_Malformed = true)
    (ss_Malformed : PySem.W.subIn K (.ref y_Malformed) (.ref y_Malformed) = some true)
    (q_BadNumber : PySem.W.excIn K y_BadNumber [.type "ValueError", .type "Exception", .type "BaseException", .type "object"] "ValueError.__new__" = true)
    (ga_Malformed : PySem.W.findIn K (.ref y_Malformed) "__getattribute__" = some (some (.builtin "BaseException.__getattribute__")))
    (gt_Malformed : PySem.W.findIn K (.ref y_Malformed) "__getattr__" = some none)
    (nn_Malformed : PySem.W.findIn K (.ref y_Malformed) "at" = some none)
    (hD_Malformed : PySem.W.hasDictIn K y_Malformed = true)
    (xL_Malformed : K.lookup y_Malformed = some (excClassObj nm_Malformed q_Malformed_ y_Malformed N_Malformed bs_Malformed bm_Malformed true sn_Malformed sub_Malformed ab_Malformed col_Malformed dd_Malformed m0_Malformed m1_Malformed m2_Malformed m3_Malformed m5_Malformed "ValueError.__new__"))
    (rf_Malformed : PySem.HandSPX.refsVE bm_Malformed = true)
    (sa_Malformed : PySem.W.findIn K (.ref y_Malformed) "__setattr__" = some (some (.builtin "object.__setattr__")))
    (ti_Malformed : PySem.W.typeIn K (.ref x_Malformed__init) = some (.type "function"))
    (gg_RunError : PySem.W.specialIn K (.ref y_RunError) "__getattribute__" = some (some (.builtin "type.__getattribute__")))
    (rr_RunError : PySem.W.readsIn K y_RunError (.type "type") = true)
    (vv_RunError : PySem.W.findCls K (.ref y_RunError) (.type "type") "__init__" = some (.val (.builtin "ValueError.__init__")))
    : Txt K mg ⟨y_RunError, y_BadNumber, y_Malformed, y_Reading, x_Malformed__init, PySem.W.fnOf "__init__" "Malformed.__init__" (defArgs (inClass (top 3) 0)) (defBody (inClass (top 3) 0)) (defScope (inClass (top 3) 0)) .none kV_Malformed__init dc_Malformed__init pm_Malformed__init an_Malformed__init cd_Malformed__init ct_Malformed__init, x_has_text, PySem.W.fnOf "has_text" "has_text" (defArgs (top 13)) (defBody (top 13)) (defScope (top 13)) .none kV_has_text dc_has_text pm_has_text an_has_text cd_has_text ct_has_text, x_term_text, PySem.W.fnOf "term_text" "term_text" (defArgs (top 14)) (defBody (top 14)) (defScope (top 14)) .none kV_term_text dc_term_text pm_term_text an_term_text cd_term_text ct_term_text, x_Reading__init, PySem.W.fnOf "__init__" "Reading.__init__" (defArgs (inClass (top 15) 0)) (defBody (inClass (top 15) 0)) (defScope (inClass (top 15) 0)) .none kV_Reading__init dc_Reading__init pm_Reading__init an_Reading__init cd_Reading__init ct_Reading__init, x_Reading_next_sign, PySem.W.fnOf "next_sign" "Reading.next_sign" (defArgs (inClass (top 15) 1)) (defBody (inClass (top 15) 1)) (defScope (inClass (top 15) 1)) .none kV_Reading_next_sign dc_Reading_next_sign pm_Reading_next_sign an_Reading_next_sign cd_Reading_next_sign ct_Reading_next_sign, x_Reading_is_at, PySem.W.fnOf "is_at" "Reading.is_at" (defArgs (inClass (top 15) 2)) (defBody (inClass (top 15) 2)) (defScope (inClass (top 15) 2)) .none kV_Reading_is_at dc_Reading_is_at pm_Reading_is_at an_Reading_is_at cd_Reading_is_at ct_Reading_is_at, x_Reading_take, PySem.W.fnOf "take" "Reading.take" (defArgs (inClass (top 15) 3)) (defBody (inClass (top 15) 3)) (defScope (inClass (top 15) 3)) .none kV_Reading_take dc_Reading_take pm_Reading_take an_Reading_take cd_Reading_take ct_Reading_take, x_Reading_integer, PySem.W.fnOf "integer" "Reading.integer" (defArgs (inClass (top 15) 4)) (defBody (inClass (top 15) 4)) (defScope (inClass (top 15) 4)) .none kV_Reading_integer dc_Reading_integer pm_Reading_integer an_Reading_integer cd_Reading_integer ct_Reading_integer, x_Reading_term, PySem.W.fnOf "term" "Reading.term" (defArgs (inClass (top 15) 5)) (defBody (inClass (top 15) 5)) (defScope (inClass (top 15) 5)) .none kV_Reading_term dc_Reading_term pm_Reading_term an_Reading_term cd_Reading_term ct_Reading_term, x_Reading_told_rows, PySem.W.fnOf "told_rows" "Reading.told_rows" (defArgs (inClass (top 15) 6)) (defBody (inClass (top 15) 6)) (defScope (inClass (top 15) 6)) .none kV_Reading_told_rows dc_Reading_told_rows pm_Reading_told_rows an_Reading_told_rows cd_Reading_told_rows ct_Reading_told_rows, x_read_term, PySem.W.fnOf "read_term" "read_term" (defArgs (top 16)) (defBody (top 16)) (defScope (top 16)) .none kV_read_term dc_read_term pm_read_term an_read_term cd_read_term ct_read_term, x_law_number, PySem.W.fnOf "_law_number" "_law_number" (defArgs (top 18)) (defBody (top 18)) (defScope (top 18)) .none kV_law_number dc_law_number pm_law_number an_law_number cd_law_number ct_law_number, x_law_draws, PySem.W.fnOf "_law_draws" "_law_draws" (defArgs (top 19)) (defBody (top 19)) (defScope (top 19)) .none kV_law_draws dc_law_draws pm_law_draws an_law_draws cd_law_draws ct_law_draws, x_law_next, PySem.W.fnOf "_law_next" "_law_next" (defArgs (top 20)) (defBody (top 20)) (defScope (top 20)) .none kV_law_next dc_law_next pm_law_next an_law_next cd_law_next ct_law_next, x_law_more, PySem.W.fnOf "_law_more" "_law_more" (defArgs (top 21)) (defBody (top 21)) (defScope (top 21)) .none kV_law_more dc_law_more pm_law_more an_law_more cd_law_more ct_law_more, x_law_pick, PySem.W.fnOf "_law_pick" "_law_pick" (defArgs (top 22)) (defBody (top 22)) (defScope (top 22)) .none kV_law_pick dc_law_pick pm_law_pick an_law_pick cd_law_pick ct_law_pick, x_law_term, PySem.W.fnOf "_law_term" "_law_term" (defArgs (top 23)) (defBody (top 23)) (defScope (top 23)) .none kV_law_term dc_law_term pm_law_term an_law_term cd_law_term ct_law_term, x_law_text, PySem.W.fnOf "_law_text" "_law_text" (defArgs (top 24)) (defBody (top 24)) (defScope (top 24)) .none kV_law_text dc_law_text pm_law_text an_law_text cd_law_text ct_law_text, x_law_integer, PySem.W.fnOf "_law_integer" "_law_integer" (defArgs (top 25)) (defBody (top 25)) (defScope (top 25)) .none kV_law_integer dc_law_integer pm_law_integer an_law_integer cd_law_integer ct_law_integer, x_law_read, PySem.W.fnOf "_law_read" "_law_read" (defArgs (top 26)) (defBody (top 26)) (defScope (top 26)) .none kV_law_read dc_law_read pm_law_read an_law_read cd_law_read ct_law_read, x_law_entries, PySem.W.fnOf "_law_entries" "_law_entries" (defArgs (top 27)) (defBody (top 27)) (defScope (top 27)) .none kV_law_entries dc_law_entries pm_law_entries an_law_entries cd_law_entries ct_law_entries, x_law_due, PySem.W.fnOf "_law_due" "_law_due" (defArgs (top 28)) (defBody (top 28)) (defScope (top 28)) .none kV_law_due dc_law_due pm_law_due an_law_due cd_law_due ct_law_due, x_law_told, PySem.W.fnOf "_law_told" "_law_told" (defArgs (top 29)) (defBody (top 29)) (defScope (top 29)) .none kV_law_told dc_law_told pm_law_told an_law_told cd_law_told ct_law_told, x_law_refused, PySem.W.fnOf "_law_refused" "_law_refused" (defArgs (top 30)) (defBody (top 30)) (defScope (top 30)) .none kV_law_refused dc_law_refused pm_law_refused an_law_refused cd_law_refused ct_law_refused, x_law, PySem.W.fnOf "law" "law" (defArgs (top 31)) (defBody (top 31)) (defScope (top 31)) .none kV_law dc_law pm_law an_law cd_law ct_law⟩ where
  U_Malformed__init := fun_mk (st := (inClass (top 3) 0)) l_Malformed__init c_Malformed__init k_Malformed__init
  B_Malformed__init := (fun_mk (st := (inClass (top 3) 0)) l_Malformed__init c_Malformed__init k_Malformed__init).binds (ps := p_Malformed___init__) fun _ _ _ _ _ _ us hl => match us, hl with | [_, _], _ => rfl
  U_has_text := fun_mk (st := (top 13)) l_has_text c_has_text k_has_text
  B_has_text := (fun_mk (st := (top 13)) l_has_text c_has_text k_has_text).binds (ps := p_has_text) fun _ _ _ _ _ _ us hl => match us, hl with | [_], _ => rfl
  M_has_text := PySem.W.mg_of X G a_has_text
  U_term_text := fun_mk (st := (top 14)) l_term_text c_term_text k_term_text
  B_term_text := (fun_mk (st := (top 14)) l_term_text c_term_text k_term_text).binds (ps := p_term_text) fun _ _ _ _ _ _ us hl => match us, hl with | [_], _ => rfl
  M_term_text := PySem.W.mg_of X G a_term_text
  U_Reading__init := fun_mk (st := (inClass (top 15) 0)) l_Reading__init c_Reading__init k_Reading__init
  B_Reading__init := (fun_mk (st := (inClass (top 15) 0)) l_Reading__init c_Reading__init k_Reading__init).binds (ps := p_Reading___init__) fun _ _ _ _ _ _ us hl => match us, hl with | [_, _], _ => rfl
  U_Reading_next_sign := fun_mk (st := (inClass (top 15) 1)) l_Reading_next_sign c_Reading_next_sign k_Reading_next_sign
  B_Reading_next_sign := (fun_mk (st := (inClass (top 15) 1)) l_Reading_next_sign c_Reading_next_sign k_Reading_next_sign).binds (ps := p_Reading_next_sign) fun _ _ _ _ _ _ us hl => match us, hl with | [_], _ => rfl
  U_Reading_is_at := fun_mk (st := (inClass (top 15) 2)) l_Reading_is_at c_Reading_is_at k_Reading_is_at
  B_Reading_is_at := (fun_mk (st := (inClass (top 15) 2)) l_Reading_is_at c_Reading_is_at k_Reading_is_at).binds (ps := p_Reading_is_at) fun _ _ _ _ _ _ us hl => match us, hl with | [_, _], _ => rfl
  U_Reading_take := fun_mk (st := (inClass (top 15) 3)) l_Reading_take c_Reading_take k_Reading_take
  B_Reading_take := (fun_mk (st := (inClass (top 15) 3)) l_Reading_take c_Reading_take k_Reading_take).binds (ps := p_Reading_take) fun _ _ _ _ _ _ us hl => match us, hl with | [_, _], _ => rfl
  U_Reading_integer := fun_mk (st := (inClass (top 15) 4)) l_Reading_integer c_Reading_integer k_Reading_integer
  B_Reading_integer := (fun_mk (st := (inClass (top 15) 4)) l_Reading_integer c_Reading_integer k_Reading_integer).binds (ps := p_Reading_integer) fun _ _ _ _ _ _ us hl => match us, hl with | [_], _ => rfl
  U_Reading_term := fun_mk (st := (inClass (top 15) 5)) l_Reading_term c_Reading_term k_Reading_term
  B_Reading_term := (fun_mk (st := (inClass (top 15) 5)) l_Reading_term c_Reading_term k_Reading_term).binds (ps := p_Reading_term) fun _ _ _ _ _ _ us hl => match us, hl with | [_, _], _ => rfl
  U_Reading_told_rows := fun_mk (st := (inClass (top 15) 6)) l_Reading_told_rows c_Reading_told_rows k_Reading_told_rows
  B_Reading_told_rows := (fun_mk (st := (inClass (top 15) 6)) l_Reading_told_rows c_Reading_told_rows k_Reading_told_rows).binds (ps := p_Reading_told_rows) fun _ _ _ _ _ _ us hl => match us, hl with | [_, _], _ => rfl
  U_read_term := fun_mk (st := (top 16)) l_read_term c_read_term k_read_term
  B_read_term := (fun_mk (st := (top 16)) l_read_term c_read_term k_read_term).binds (ps := p_read_term) fun _ _ _ _ _ _ us hl => match us, hl with | [_], _ => rfl
  M_read_term := PySem.W.mg_of X G a_read_term
  U_law_number := fun_mk (st := (top 18)) l_law_number c_law_number k_law_number
  B_law_number := (fun_mk (st := (top 18)) l_law_number c_law_number k_law_number).binds (ps := p__law_number) fun _ _ _ _ _ _ us hl => match us, hl with | [_], _ => rfl
  M_law_number := PySem.W.mg_of X G a_law_number
  U_law_draws := fun_mk (st := (top 19)) l_law_draws c_law_draws k_law_draws
  B_law_draws := (fun_mk (st := (top 19)) l_law_draws c_law_draws k_law_draws).binds (ps := p__law_draws) fun _ _ _ _ _ _ us hl => match us, hl with | [_], _ => rfl
  M_law_draws := PySem.W.mg_of X G a_law_draws
  U_law_next := fun_mk (st := (top 20)) l_law_next c_law_next k_law_next
  B_law_next := (fun_mk (st := (top 20)) l_law_next c_law_next k_law_next).binds (ps := p__law_next) fun _ _ _ _ _ _ us hl => match us, hl with | [_], _ => rfl
  M_law_next := PySem.W.mg_of X G a_law_next
  U_law_more := fun_mk (st := (top 21)) l_law_more c_law_more k_law_more
  B_law_more := (fun_mk (st := (top 21)) l_law_more c_law_more k_law_more).binds (ps := p__law_more) fun _ _ _ _ _ _ us hl => match us, hl with | [_, _], _ => rfl
  M_law_more := PySem.W.mg_of X G a_law_more
  U_law_pick := fun_mk (st := (top 22)) l_law_pick c_law_pick k_law_pick
  B_law_pick := (fun_mk (st := (top 22)) l_law_pick c_law_pick k_law_pick).binds (ps := p__law_pick) fun _ _ _ _ _ _ us hl => match us, hl with | [_, _], _ => rfl
  M_law_pick := PySem.W.mg_of X G a_law_pick
  U_law_term := fun_mk (st := (top 23)) l_law_term c_law_term k_law_term
  B_law_term := (fun_mk (st := (top 23)) l_law_term c_law_term k_law_term).binds (ps := p__law_term) fun _ _ _ _ _ _ us hl => match us, hl with | [_, _], _ => rfl
  M_law_term := PySem.W.mg_of X G a_law_term
  U_law_text := fun_mk (st := (top 24)) l_law_text c_law_text k_law_text
  B_law_text := (fun_mk (st := (top 24)) l_law_text c_law_text k_law_text).binds (ps := p__law_text) fun _ _ _ _ _ _ us hl => match us, hl with | [_], _ => rfl
  M_law_text := PySem.W.mg_of X G a_law_text
  U_law_integer := fun_mk (st := (top 25)) l_law_integer c_law_integer k_law_integer
  B_law_integer := (fun_mk (st := (top 25)) l_law_integer c_law_integer k_law_integer).binds (ps := p__law_integer) fun _ _ _ _ _ _ us hl => match us, hl with | [_, _], _ => rfl
  M_law_integer := PySem.W.mg_of X G a_law_integer
  U_law_read := fun_mk (st := (top 26)) l_law_read c_law_read k_law_read
  B_law_read := (fun_mk (st := (top 26)) l_law_read c_law_read k_law_read).binds (ps := p__law_read) fun _ _ _ _ _ _ us hl => match us, hl with | [_, _, _], _ => rfl
  M_law_read := PySem.W.mg_of X G a_law_read
  U_law_entries := fun_mk (st := (top 27)) l_law_entries c_law_entries k_law_entries
  B_law_entries := (fun_mk (st := (top 27)) l_law_entries c_law_entries k_law_entries).binds (ps := p__law_entries) fun _ _ _ _ _ _ us hl => match us, hl with | [_, _, _], _ => rfl
  M_law_entries := PySem.W.mg_of X G a_law_entries
  U_law_due := fun_mk (st := (top 28)) l_law_due c_law_due k_law_due
  B_law_due := (fun_mk (st := (top 28)) l_law_due c_law_due k_law_due).binds (ps := p__law_due) fun _ _ _ _ _ _ us hl => match us, hl with | [_], _ => rfl
  M_law_due := PySem.W.mg_of X G a_law_due
  U_law_told := fun_mk (st := (top 29)) l_law_told c_law_told k_law_told
  B_law_told := (fun_mk (st := (top 29)) l_law_told c_law_told k_law_told).binds (ps := p__law_told) fun _ _ _ _ _ _ us hl => match us, hl with | [_], _ => rfl
  M_law_told := PySem.W.mg_of X G a_law_told
  U_law_refused := fun_mk (st := (top 30)) l_law_refused c_law_refused k_law_refused
  B_law_refused := (fun_mk (st := (top 30)) l_law_refused c_law_refused k_law_refused).binds (ps := p__law_refused) fun _ _ _ _ _ _ us hl => match us, hl with | [_], _ => rfl
  M_law_refused := PySem.W.mg_of X G a_law_refused
  U_law := fun_mk (st := (top 31)) l_law c_law k_law
  B_law := (fun_mk (st := (top 31)) l_law c_law k_law).binds (ps := p_law) fun _ _ _ _ _ _ us hl => match us, hl with | [_], _ => rfl
  M_law := PySem.W.mg_of X G a_law
  C_FIGURES := ⟨_, PySem.W.mg_of X G v_FIGURES, ⟨_, rfl⟩⟩
  C_MOST_BITS := ⟨_, PySem.W.mg_of X G v_MOST_BITS, ⟨_, rfl⟩⟩
  C_MOST_FIGURES := ⟨_, PySem.W.mg_of X G v_MOST_FIGURES, ⟨_, rfl⟩⟩
  C_MOST_OPEN := ⟨_, PySem.W.mg_of X G v_MOST_OPEN, ⟨_, rfl⟩⟩
  C_MOST_TEXT := ⟨_, PySem.W.mg_of X G v_MOST_TEXT, ⟨_, rfl⟩⟩
  C_NOBODY := ⟨_, PySem.W.mg_of X G v_NOBODY, ⟨_, rfl⟩⟩
  C_NOTHING := ⟨_, PySem.W.mg_of X G v_NOTHING, ⟨_, rfl⟩⟩
  C_SMALL := ⟨_, PySem.W.mg_of X G v_SMALL, ⟨_, rfl⟩⟩
  Z_abs := PySem.W.mg_none_of X G z_abs
  Z_all := PySem.W.mg_none_of X G z_all
  Z_int := PySem.W.mg_none_of X G z_int
  Z_isinstance := PySem.W.mg_none_of X G z_isinstance
  Z_len := PySem.W.mg_none_of X G z_len
  Z_list := PySem.W.mg_none_of X G z_list
  Z_range := PySem.W.mg_none_of X G z_range
  Z_repr := PySem.W.mg_none_of X G z_repr
  Z_str := PySem.W.mg_none_of X G z_str
  Z_tuple := PySem.W.mg_none_of X G z_tuple
  M_RunError := PySem.W.mg_of X G g_RunError
  M_BadNumber := PySem.W.mg_of X G g_BadNumber
  M_Malformed := PySem.W.mg_of X G g_Malformed
  M_Reading := PySem.W.mg_of X G g_Reading
  cl_Reading := ⟨pg_Reading, hd_Reading, po_Reading, sa_Reading⟩
  mk_Reading := ⟨mi_Reading, a_Reading__init, i_Reading__init, kC_Reading⟩
  me_Reading_next_sign := ⟨a_Reading_next_sign, i_Reading_next_sign, k_Reading_next_sign⟩
  me_Reading_is_at := ⟨a_Reading_is_at, i_Reading_is_at, k_Reading_is_at⟩
  me_Reading_take := ⟨a_Reading_take, i_Reading_take, k_Reading_take⟩
  me_Reading_integer := ⟨a_Reading_integer, i_Reading_integer, k_Reading_integer⟩
  me_Reading_term := ⟨a_Reading_term, i_Reading_term, k_Reading_term⟩
  me_Reading_told_rows := ⟨a_Reading_told_rows, i_Reading_told_rows, k_Reading_told_rows⟩
  na_Reading_at := na_Reading_at
  na_Reading_text := na_Reading_text
  te_BadNumber := exm_self exC_BadNumber ic_BadNumber tyC_BadNumber ss_BadNumber
  te_Malformed := exm_self exC_Malformed ic_Malformed tyC_Malformed ss_Malformed
  q_BadNumber := q_BadNumber
  ke_BadNumber := ke_BadNumber
  ex_BadNumber := exC_BadNumber
  ty_BadNumber := tyC_BadNumber
  xg_Malformed := ⟨ga_Malformed, gt_Malformed, nn_Malformed, exC_Malformed, hD_Malformed⟩
  ox_Malformed := ⟨⟨nm_Malformed, q_Malformed_, N_Malformed, bs_Malformed, bm_Malformed, sn_Malformed, sub_Malformed, ab_Malformed, col_Malformed, dd_Malformed, m0_Malformed, m1_Malformed, m2_Malformed, m3_Malformed, m5_Malformed, xL_Malformed, rf_Malformed⟩, sa_Malformed, exC_Malformed, tyC_Malformed, ke_Malformed⟩
  in_Malformed := a_Malformed__init
  ti_Malformed := ti_Malformed
  gg_RunError := gg_RunError
  rr_RunError := rr_RunError
  vv_RunError := vv_RunError
  nx_Malformed := nn_Malformed
theorem law_mk {P : Program} {w : World} {K : PySem.W.Frag} {mg : Str → Option Value} {fa : Addr} {a : Ad} (hfa : mg "law" = some (.ref fa)) (T : Txt K mg a) (hb : ∀ (s : Shared) (v : Value), BindsTo s a.d_law ⟨[v], []⟩ [("script", v)]) :
    ∃ fd : FuncData, (∀ (s : Shared) (v : Value), BindsTo s fd ⟨[v], []⟩ [("script", v)]) ∧ ∀ base : Heap, K.In base → base.Ns mainGlobals mg → base.NoDigits → FnL P w K mg base fa fd ["script"] (spLaw K) := by
  have e := hfa.symm.trans T.M_law
  cases e
  exact ⟨a.d_law, hb, fun base _ _ nd => ⟨fun outer s H args us vs Q E h1 h2 h3 h4 => (law_all T nd).run outer s H args us vs Q E h1 h2 h3 (h4 a.cm)⟩⟩
theorem walk {l : PySem.W.OpenLaw} {q : Program} {loose : List Str} {XP : (Str → Option Value) → Heap → Prop} {YP : World → Heap → Prop} {d : DefRec} {K : Params → PySem.W.Frag} (hn : l.most = some 63) (hdf : d.params.defaults = []) (hY : ∀ (w : World) (h : Heap), YP w h → (K w.params).In h)
    (F : ∀ (w : World) (mg : Str → Option Value) (fa : Addr) (h : Heap), (K w.params).In h → h.Ns mainGlobals mg → mg d.name = some (.ref fa) →
      ∃ fd : FuncData, (∀ (s : Shared) (u : Value), BindsTo s fd ⟨[u], []⟩ [("script", u)]) ∧ ∀ base : Heap, (K w.params).In base → base.Ns mainGlobals mg → base.NoDigits → FnL l.prog w (K w.params) mg base fa fd ["script"] (spLaw (K w.params))) :
    PySem.W.WalkO q loose XP YP l.row.toRowW d [] (fun f vs => PySem.call f vs) :=
  walk_L (n := 63) (x := "script") (sp := fun w => spLaw (K w.params)) hn (by decide) hdf hY F fun w H a ns hl hO hS cm => sp_script hO hS (Nat.le_trans hl (by decide)) (law_true ns hl)
end Rn
open PySem PySem.W PyProof.Rows
set_option maxRecDepth 100000 in
set_option maxHeartbeats 0 in
theorem PySem.Challenge.cw_runsabreast_k20_texts_of_tuples_holds : PySem.Challenge.rw_runsabreast_k20_texts_of_tuples.Holds := by
  w_on; o_law; k_head; (case hw => w_witness2)
  k_fill
  refine Rn.walk (l := PySem.Challenge.rw_runsabreast_k20_texts_of_tuples) rfl rfl (fun w h Y => PySem.W.kIn_of Y) ?F
  case F =>
    intro w mg fa h KX G hmg
    refine' Rn.law_mk hmg (Rn.txt_mk KX G ?g_RunError ?g_BadNumber ?g_Malformed ?g_Reading ?a_Malformed__init ?i_Malformed__init ?l_Malformed__init ?c_Malformed__init ?k_Malformed__init ?a_has_text ?l_has_text ?c_has_text ?k_has_text ?a_term_text ?l_term_text ?c_term_text ?k_term_text ?a_Reading__init ?i_Reading__init ?l_Reading__init ?c_Reading__init ?k_Reading__init ?a_Reading_next_sign ?i_Reading_next_sign ?l_Reading_next_sign ?c_Reading_next_sign ?k_Reading_next_sign ?a_Reading_is_at ?i_Reading_is_at ?l_Reading_is_at ?c_Reading_is_at ?k_Reading_is_at ?a_Reading_take ?i_Reading_take ?l_Reading_take ?c_Reading_take ?k_Reading_take ?a_Reading_integer ?i_Reading_integer ?l_Reading_integer ?c_Reading_integer ?k_Reading_integer ?a_Reading_term ?i_Reading_term ?l_Reading_term ?c_Reading_term ?k_Reading_term ?a_Reading_told_rows ?i_Reading_told_rows ?l_Reading_told_rows ?c_Reading_told_rows ?k_Reading_told_rows ?a_read_term ?l_read_term ?c_read_term ?k_read_term ?a_law_number ?l_law_number ?c_law_number ?k_law_number ?a_law_draws ?l_law_draws ?c_law_draws ?k_law_draws ?a_law_next ?l_law_next ?c_law_next ?k_law_next ?a_law_more ?l_law_more ?c_law_more ?k_law_more ?a_law_pick ?l_law_pick ?c_law_pick ?k_law_pick ?a_law_term ?l_law_term ?c_law_term ?k_law_term ?a_law_text ?l_law_text ?c_law_text ?k_law_text ?a_law_integer ?l_law_integer ?c_law_integer ?k_law_integer ?a_law_read ?l_law_read ?c_law_read ?k_law_read ?a_law_entries ?l_law_entries ?c_law_entries ?k_law_entries ?a_law_due ?l_law_due ?c_law_due ?k_law_due ?a_law_told ?l_law_told ?c_law_told ?k_law_told ?a_law_refused ?l_law_refused ?c_law_refused ?k_law_refused ?a_law ?l_law ?c_law ?k_law ?v_FIGURES ?v_MOST_BITS ?v_MOST_FIGURES ?v_MOST_OPEN ?v_MOST_TEXT ?v_NOBODY ?v_NOTHING ?v_SMALL ?z_abs ?z_all ?z_int ?z_isinstance ?z_len ?z_list ?z_range ?z_repr ?z_str ?z_tuple ?pg_Reading ?hd_Reading ?po_Reading ?sa_Reading ?mi_Reading ?kC_Reading ?na_Reading_at ?na_Reading_text ?exC_BadNumber ?tyC_BadNumber ?ke_BadNumber ?ic_BadNumber ?ss_BadNumber ?exC_Malformed ?tyC_Malformed ?ke_Malformed ?ic_Malformed ?ss_Malformed ?q_BadNumber ?ga_Malformed ?gt_Malformed ?nn_Malformed ?hD_Malformed ?xL_Malformed ?rf_Malformed ?sa_Malformed ?ti_Malformed ?gg_RunError ?rr_RunError ?vv_RunError) (fun s v => .of_eq rfl)
    (case g_RunError => k_is)
    (case g_BadNumber => k_is)
    (case g_Malformed => k_is)
    (case g_Reading => k_is)
    (case a_Malformed__init => k_is)
    (case i_Malformed__init => k_is)
    (case l_Malformed__init => k_is)
    (case c_Malformed__init => k_is)
    (case k_Malformed__init => k_is)
    (case a_has_text => k_is)
    (case l_has_text => k_is)
    (case c_has_text => k_is)
    (case k_has_text => k_is)
    (case a_term_text => k_is)
    (case l_term_text => k_is)
    (case c_term_text => k_is)
    (case k_term_text => k_is)
    (case a_Reading__init => k_is)
    (case i_Reading__init => k_is)
    (case l_Reading__init => k_is)
    (case c_Reading__init => k_is)
    (case k_Reading__init => k_is)
    (case a_Reading_next_sign => k_is)
    (case i_Reading_next_sign => k_is)
    (case l_Reading_next_sign => k_is)
    (case c_Reading_next_sign => k_is)
    (case k_Reading_next_sign => k_is)
    (case a_Reading_is_at => k_is)
    (case i_Reading_is_at => k_is)
    (case l_Reading_is_at => k_is)
    (case c_Reading_is_at => k_is)
    (case k_Reading_is_at => k_is)
    (case a_Reading_take => k_is)
    (case i_Reading_take => k_is)
    (case l_Reading_take => k_is)
    (case c_Reading_take => k_is)
    (case k_Reading_take => k_is)
    (case a_Reading_integer => k_is)
    (case i_Reading_integer => k_is)
    (case l_Reading_integer => k_is)
    (case c_Reading_integer => k_is)
    (case k_Reading_integer => k_is)
    (case a_Reading_term => k_is)
    (case i_Reading_term => k_is)
    (case l_Reading_term => k_is)
    (case c_Reading_term => k_is)
    (case k_Reading_term => k_is)
    (case a_Reading_told_rows => k_is)
    (case i_Reading_told_rows => k_is)
    (case l_Reading_told_rows => k_is)
    (case c_Reading_told_rows => k_is)
    (case k_Reading_told_rows => k_is)
    (case a_read_term => k_is)
    (case l_read_term => k_is)
    (case c_read_term => k_is)
    (case k_read_term => k_is)
    (case a_law_number => k_is)
    (case l_law_number => k_is)
    (case c_law_number => k_is)
    (case k_law_number => k_is)
    (case a_law_draws => k_is)
    (case l_law_draws => k_is)
    (case c_law_draws => k_is)
    (case k_law_draws => k_is)
    (case a_law_next => k_is)
    (case l_law_next => k_is)
    (case c_law_next => k_is)
    (case k_law_next => k_is)
    (case a_law_more => k_is)
    (case l_law_more => k_is)
    (case c_law_more => k_is)
    (case k_law_more => k_is)
    (case a_law_pick => k_is)
    (case l_law_pick => k_is)
    (case c_law_pick => k_is)
    (case k_law_pick => k_is)
    (case a_law_term => k_is)
    (case l_law_term => k_is)
    (case c_law_term => k_is)
    (case k_law_term => k_is)
    (case a_law_text => k_is)
    (case l_law_text => k_is)
    (case c_law_text => k_is)
    (case k_law_text => k_is)
    (case a_law_integer => k_is)
    (case l_law_integer => k_is)
    (case c_law_integer => k_is)
    (case k_law_integer => k_is)
    (case a_law_read => k_is)
    (case l_law_read => k_is)
    (case c_law_read => k_is)
    (case k_law_read => k_is)
    (case a_law_entries => k_is)
    (case l_law_entries => k_is)
    (case c_law_entries => k_is)
    (case k_law_entries => k_is)
    (case a_law_due => k_is)
    (case l_law_due => k_is)
    (case c_law_due => k_is)
    (case k_law_due => k_is)
    (case a_law_told => k_is)
    (case l_law_told => k_is)
    (case c_law_told => k_is)
    (case k_law_told => k_is)
    (case a_law_refused => k_is)
    (case l_law_refused => k_is)
    (case c_law_refused => k_is)
    (case k_law_refused => k_is)
    (case a_law => k_is)
    (case l_law => k_is)
    (case c_law => k_is)
    (case k_law => k_is)
    (case v_FIGURES => k_is)
    (case v_MOST_BITS => k_is)
    (case v_MOST_FIGURES => k_is)
    (case v_MOST_OPEN => k_is)
    (case v_MOST_TEXT => k_is)
    (case v_NOBODY => k_is)
    (case v_NOTHING => k_is)
    (case v_SMALL => k_is)
    (case z_abs => k_is)
    (case z_all => k_is)
    (case z_int => k_is)
    (case z_isinstance => k_is)
    (case z_len => k_is)
    (case z_list => k_is)
    (case z_range => k_is)
    (case z_repr => k_is)
    (case z_str => k_is)
    (case z_tuple => k_is)
    (case pg_Reading => k_is)
    (case hd_Reading => k_is)
    (case po_Reading => k_is)
    (case sa_Reading => k_is)
    (case mi_Reading => k_is)
    (case kC_Reading => k_is)
    (case na_Reading_at => k_is)
    (case na_Reading_text => k_is)
    (case exC_BadNumber => k_is)
    (case tyC_BadNumber => k_is)
    (case ke_BadNumber => k_is)
    (case ic_BadNumber => k_is)
    (case ss_BadNumber => k_is)
    (case exC_Malformed => k_is)
    (case tyC_Malformed => k_is)
    (case ke_Malformed => k_is)
    (case ic_Malformed => k_is)
    (case ss_Malformed => k_is)
    (case q_BadNumber => k_exc)
    (case ga_Malformed => k_is)
    (case gt_Malformed => k_is)
    (case nn_Malformed => k_is)
    (case hD_Malformed => k_is)
    (case xL_Malformed => k_is)
    (case rf_Malformed => exact rfl)
    (case sa_Malformed => k_is)
    (case ti_Malformed => k_is)
    (case gg_RunError => k_is)
    (case rr_RunError => k_is)
    (case vv_RunError => k_is)
