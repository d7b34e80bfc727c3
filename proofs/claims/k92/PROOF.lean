import PyProof.Rows.All
import Wide.All
import OpenK.AllK
import Wide.FinOn
import PySem.Challenge.RW_roadsfail_k92_whole_ladders_and_spares_a
import HandS.ForMost
import HandS.ForExc
import HandS.Wide
import HandS.Gcd
import HandS.Style
import HandS.Zip
import HandS.IsInst
import HandS.Flow
import HandS.Lambda
import HandS.ExcIs
import HandS.ExcSuper
import HandS.TupMul
import HandS.Conv
import HandS.TupAny
import KE.KMathGC
import KE.GoesEnum
set_option Elab.async false
set_option linter.all false
set_option maxRecDepth 100000
set_option maxHeartbeats 4000000
/-! PL, part a: data, slots, the relation of a frame's pure state to its heap, steps. -/
namespace PL
open PySem PySem.Spec PyProof.Rows L2

inductive D where
  | non | bl (b : Bool) | int (i : Int) | str (x : Str) | tup (ds : List D) | lst (ds : List D) | fn (k : Nat) | scr (ns : List Int)

inductive Slot where
  | em | pu (d : D) | ow (ds : List D)

abbrev St := L2.St
abbrev Ev := List Slot

inductive Res (α : Type) where
  | ok (a : α) | err (c : Nat) | stuck

namespace Res
variable {α β γ : Type}
def bind (r : Res α) (f : α → Res β) : Res β := match r with
  | .ok a => f a
  | .err c => .err c
  | .stuck => .stuck
@[simp] theorem bind_ok (a : α) (f : α → Res β) : (Res.ok a).bind f = f a := rfl
@[simp] theorem bind_err (c : Nat) (f : α → Res β) : (Res.err c : Res α).bind f = .err c := rfl
@[simp] theorem bind_stuck (f : α → Res β) : (Res.stuck : Res α).bind f = .stuck := rfl
end Res

/-- what is the same for a whole law -/
structure Fx where
  K : PySem.W.Frag
  fa : Nat → Addr
  ca : Nat → Addr
  T : List (Addr × Str)
/-- .. and a frame's own mutable argument -/
structure Fr where
  F : Fx
  cp : Option Addr

mutual
def Rp (F : Fx) (G : Hp) : D → V → Prop
  | .non, v => v = .non
  | .bl b, v => v = .bl b
  | .int i, v => v = .int i
  | .str x, v => v = .str x
  | .fn k, v => v = .ref (F.fa k)
  | .scr ns, v => ∃ a, v = .ref a ∧ SqL F.K G a (ns.map V.int)
  | .tup ds, v => ∃ a vs, v = .ref a ∧ SqT F.K G a vs ∧ RpL F G ds vs
  | .lst ds, v => ∃ a vs, v = .ref a ∧ G a = some (.lst vs) ∧ RpL F G ds vs
def RpL (F : Fx) (G : Hp) : List D → List V → Prop
  | [], vs => vs = []
  | d :: ds, vs => ∃ v r, vs = v :: r ∧ Rp F G d v ∧ RpL F G ds r
end

theorem sqT_mono {K : PySem.W.Frag} {G G' : Hp} (h : ∀ q o, G q = some o → G' q = some o) {a : Addr} {xs : List V} (s : SqT K G a xs) : SqT K G' a xs := by
  rcases s with (s | ⟨o, s⟩) | s
  · exact .inl (.inl (h _ _ s))
  · exact .inl (.inr ⟨o, h _ _ s⟩)
  · exact .inr s

theorem sqL_mono {K : PySem.W.Frag} {G G' : Hp} (h : ∀ q o, G q = some o → G' q = some o) {a : Addr} {xs : List V} (s : SqL K G a xs) : SqL K G' a xs := by
  rcases s with (s | ⟨o, s⟩) | s
  · exact .inl (.inl (h _ _ s))
  · exact .inl (.inr ⟨o, h _ _ s⟩)
  · exact .inr s

mutual
theorem Rp.mono {F : Fx} {G G' : Hp} (h : ∀ q o, G q = some o → G' q = some o) : ∀ (d : D) (v : V), Rp F G d v → Rp F G' d v
  | .non, _, r => r
  | .bl _, _, r => r
  | .int _, _, r => r
  | .str _, _, r => r
  | .fn _, _, r => r
  | .scr ns, _, r => by
    simp only [Rp] at r ⊢
    obtain ⟨a, e, s⟩ := r
    exact ⟨a, e, sqL_mono h s⟩
  | .tup ds, _, r => by
    simp only [Rp] at r ⊢
    obtain ⟨a, vs, e, s, l⟩ := r
    exact ⟨a, vs, e, sqT_mono h s, RpL.mono h ds vs l⟩
  | .lst ds, _, r => by
    simp only [Rp] at r ⊢
    obtain ⟨a, vs, e, s, l⟩ := r
    exact ⟨a, vs, e, h _ _ s, RpL.mono h ds vs l⟩
theorem RpL.mono {F : Fx} {G G' : Hp} (h : ∀ q o, G q = some o → G' q = some o) : ∀ (ds : List D) (vs : List V), RpL F G ds vs → RpL F G' ds vs
  | [], _, r => r
  | d :: ds, _, r => by
    simp only [RpL] at r ⊢
    obtain ⟨v, vs, e, s, l⟩ := r
    exact ⟨v, vs, e, Rp.mono h d v s, RpL.mono h ds vs l⟩
end

theorem RpL.nil {F : Fx} {G : Hp} : RpL F G [] [] := by simp only [RpL]
theorem RpL.cons {F : Fx} {G : Hp} {d : D} {ds : List D} {v : V} {vs : List V} (a : Rp F G d v) (b : RpL F G ds vs) : RpL F G (d :: ds) (v :: vs) := by
  simp only [RpL]; exact ⟨v, vs, rfl, a, b⟩
theorem RpL.of_cons {F : Fx} {G : Hp} {d : D} {ds : List D} {vs : List V} (h : RpL F G (d :: ds) vs) : ∃ v r, vs = v :: r ∧ Rp F G d v ∧ RpL F G ds r := by
  simpa only [RpL] using h
theorem RpL.of_nil {F : Fx} {G : Hp} {vs : List V} (h : RpL F G [] vs) : vs = [] := by simpa only [RpL] using h
theorem RpL.length {F : Fx} {G : Hp} : ∀ {ds : List D} {vs : List V}, RpL F G ds vs → ds.length = vs.length
  | [], vs, h => by rw [h.of_nil]; rfl
  | d :: ds, vs, h => by
    obtain ⟨v, r, rfl, _, l⟩ := h.of_cons
    simp [l.length]
theorem RpL.append {F : Fx} {G : Hp} : ∀ {ds es : List D} {vs ws : List V}, RpL F G ds vs → RpL F G es ws → RpL F G (ds ++ es) (vs ++ ws)
  | [], _, vs, _, h, k => by rw [h.of_nil]; exact k
  | d :: ds, _, vs, _, h, k => by
    obtain ⟨v, r, rfl, a, l⟩ := h.of_cons
    exact RpL.cons a (l.append k)
theorem RpL.get {F : Fx} {G : Hp} : ∀ {ds : List D} {vs : List V} {i : Nat} {d : D}, RpL F G ds vs → ds[i]? = some d → ∃ v, vs[i]? = some v ∧ Rp F G d v
  | [], _, _, _, _, e => by simp at e
  | d :: ds, vs, 0, x, h, e => by
    obtain ⟨v, r, rfl, a, l⟩ := h.of_cons
    simp at e; subst e
    exact ⟨v, rfl, a⟩
  | d :: ds, vs, i + 1, x, h, e => by
    obtain ⟨v, r, rfl, a, l⟩ := h.of_cons
    simp at e
    obtain ⟨w, e1, e2⟩ := l.get (i := i) e
    exact ⟨w, by simpa using e1, e2⟩
theorem RpL.getV {F : Fx} {G : Hp} {ds : List D} {vs : List V} {i : Nat} {v : V} (h : RpL F G ds vs) (e : vs[i]? = some v) : ∃ d, ds[i]? = some d ∧ Rp F G d v := by
  have hi : i < ds.length := by
    rw [h.length]
    exact (List.getElem?_eq_some_iff.mp e).1
  obtain ⟨w, e1, r⟩ := h.get (d := ds[i]) (List.getElem?_eq_getElem hi)
  rw [e] at e1
  cases e1
  exact ⟨_, List.getElem?_eq_getElem hi, r⟩
theorem RpL.take {F : Fx} {G : Hp} : ∀ (n : Nat) {ds : List D} {vs : List V}, RpL F G ds vs → RpL F G (ds.take n) (vs.take n)
  | 0, _, _, _ => RpL.nil
  | n + 1, [], vs, h => by rw [h.of_nil]; exact RpL.nil
  | n + 1, d :: ds, vs, h => by
    obtain ⟨v, r, rfl, a, l⟩ := h.of_cons
    exact RpL.cons a (l.take n)
theorem RpL.drop {F : Fx} {G : Hp} : ∀ (n : Nat) {ds : List D} {vs : List V}, RpL F G ds vs → RpL F G (ds.drop n) (vs.drop n)
  | 0, _, _, h => h
  | n + 1, [], vs, h => by rw [h.of_nil]; exact RpL.nil
  | n + 1, d :: ds, vs, h => by
    obtain ⟨v, r, rfl, a, l⟩ := h.of_cons
    exact l.drop n
theorem RpL.set {F : Fx} {G : Hp} {d : D} {v : V} (r : Rp F G d v) : ∀ (n : Nat) {ds : List D} {vs : List V}, RpL F G ds vs → RpL F G (ds.set n d) (vs.set n v)
  | _, [], vs, h => by rw [h.of_nil]; exact RpL.nil
  | 0, e :: ds, vs, h => by
    obtain ⟨w, q, rfl, a, l⟩ := h.of_cons
    exact RpL.cons r l
  | n + 1, e :: ds, vs, h => by
    obtain ⟨w, q, rfl, a, l⟩ := h.of_cons
    exact RpL.cons a (l.set r n)
theorem RpL.reverse {F : Fx} {G : Hp} : ∀ {ds : List D} {vs : List V}, RpL F G ds vs → RpL F G ds.reverse vs.reverse
  | [], vs, h => by rw [h.of_nil]; exact RpL.nil
  | d :: ds, vs, h => by
    obtain ⟨v, r, rfl, a, l⟩ := h.of_cons
    rw [List.reverse_cons, List.reverse_cons]
    exact l.reverse.append (RpL.cons a RpL.nil)
theorem RpL.rep {F : Fx} {G : Hp} {ds : List D} {vs : List V} (h : RpL F G ds vs) : ∀ k : Nat, RpL F G (List.replicate k ds).flatten (List.replicate k vs).flatten
  | 0 => RpL.nil
  | k + 1 => by
    rw [List.replicate_succ, List.replicate_succ, List.flatten_cons, List.flatten_cons]
    exact h.append (h.rep k)
theorem RpL.mapI {F : Fx} {G : Hp} : ∀ {ns : List Int} {vs : List V}, RpL F G (ns.map D.int) vs → vs = ns.map V.int
  | [], vs, h => h.of_nil
  | n :: ns, vs, h => by
    obtain ⟨v, r, rfl, a, l⟩ := h.of_cons
    simp only [Rp] at a
    rw [a, l.mapI]; rfl
theorem RpL.mapB {F : Fx} {G : Hp} : ∀ {ns : List Bool} {vs : List V}, RpL F G (ns.map D.bl) vs → vs = ns.map V.bl
  | [], vs, h => h.of_nil
  | n :: ns, vs, h => by
    obtain ⟨v, r, rfl, a, l⟩ := h.of_cons
    simp only [Rp] at a
    rw [a, l.mapB]; rfl
theorem RpL.mapS {F : Fx} {G : Hp} : ∀ {ns : List Str} {vs : List V}, RpL F G (ns.map D.str) vs → vs = ns.map V.str
  | [], vs, h => h.of_nil
  | n :: ns, vs, h => by
    obtain ⟨v, r, rfl, a, l⟩ := h.of_cons
    simp only [Rp] at a
    rw [a, l.mapS]; rfl

/-! ### the state of a frame -/
def Own (σ : St) (ε : Ev) (q : Addr) : Prop := ∃ (i : Nat) (ds : List D), ε[i]? = some (.ow ds) ∧ σ[i]? = some (some (.ref q))

def SlotOk (F : Fx) (G H : Hp) : Slot → Option V → Prop
  | .em, _ => True
  | .pu d, o => ∃ v, o = some v ∧ Rp F G d v
  | .ow ds, o => ∃ p vs, o = some (.ref p) ∧ G p = none ∧ H p = some (.lst vs) ∧ RpL F G ds vs

structure SR (M : Fr) (G H : Hp) (σ : St) (ε : Ev) : Prop where
  sub : ∀ q o, G q = some o → H q = some o
  ntb : ∀ q ps, G q ≠ some (.tbl ps)
  tabs : LamX.Tabs M.F.T H
  len : ε.length = σ.length
  slots : ∀ (i : Nat) (s : Slot) (o : Option V), ε[i]? = some s → σ[i]? = some o → SlotOk M.F G H s o
  inj : ∀ (i j : Nat) (ds es : List D) (q : Addr), ε[i]? = some (.ow ds) → ε[j]? = some (.ow es) → σ[i]? = some (some (.ref q)) → σ[j]? = some (some (.ref q)) → i = j
  cup : ∀ p, M.cp = some p → σ[0]? = some (some (.ref p)) ∧ ∃ ds, ε[0]? = some (.ow ds)

structure Step (G H : Hp) (O : Addr → Prop) (G' H' : Hp) (O' : Addr → Prop) : Prop where
  gg : ∀ q o, G q = some o → G' q = some o
  hh : ∀ q o, H q = some o → (∀ ps, o ≠ .tbl ps) → ¬ O q → H' q = some o
  hs : ∀ q, H' q = none → H q = none
  gn : ∀ q o, G' q = some o → G q = some o ∨ H q = none ∨ O q
  oo : ∀ q, O' q → O q ∨ H q = none

theorem Step.refl (G H : Hp) (O : Addr → Prop) : Step G H O G H O :=
  ⟨fun _ _ h => h, fun _ _ h _ _ => h, fun _ h => h, fun _ _ h => .inl h, fun _ h => .inl h⟩

theorem Step.trans {G H : Hp} {O : Addr → Prop} {G1 H1 : Hp} {O1 : Addr → Prop} {G2 H2 : Hp} {O2 : Addr → Prop}
    (sub1 : ∀ q o, G1 q = some o → H1 q = some o)
    (a : Step G H O G1 H1 O1) (b : Step G1 H1 O1 G2 H2 O2) : Step G H O G2 H2 O2 where
  gg := fun q o h => b.gg q o (a.gg q o h)
  hh := fun q o h nt no => by
    refine b.hh q o (a.hh q o h nt no) nt fun z => ?_
    rcases a.oo q z with z | z
    · exact no z
    · rw [h] at z; cases z
  hs := fun q h => a.hs q (b.hs q h)
  gn := fun q o h => by
    rcases b.gn q o h with z | z | z
    · exact a.gn q o z
    · exact .inr (.inl (a.hs q z))
    · rcases a.oo q z with y | y
      · exact .inr (.inr y)
      · exact .inr (.inl y)
  oo := fun q h => by
    rcases b.oo q h with z | z
    · exact a.oo q z
    · exact .inr (a.hs q z)

/-- a slot's address that is owned -/
theorem SR.own {M : Fr} {G H : Hp} {σ : St} {ε : Ev} (s : SR M G H σ ε) {q : Addr} (o : Own σ ε q) : G q = none ∧ ∃ vs, H q = some (.lst vs) := by
  obtain ⟨i, ds, e1, e2⟩ := o
  obtain ⟨p, vs, e3, g, h, _⟩ := s.slots i _ _ e1 e2
  cases e3
  exact ⟨g, vs, h⟩
theorem SR.lt {M : Fr} {G H : Hp} {σ : St} {ε : Ev} (s : SR M G H σ ε) {i : Nat} {x : Slot} (e : ε[i]? = some x) : ∃ o, σ[i]? = some o := by
  have h : i < ε.length := (List.getElem?_eq_some_iff.mp e).1
  rw [s.len] at h
  exact ⟨_, List.getElem?_eq_getElem h⟩
theorem SR.pu {M : Fr} {G H : Hp} {σ : St} {ε : Ev} (s : SR M G H σ ε) {i : Nat} {d : D} (e : ε[i]? = some (.pu d)) : ∃ v, σ[i]? = some (some v) ∧ Rp M.F G d v := by
  obtain ⟨o, e2⟩ := s.lt e
  obtain ⟨v, e3, r⟩ := s.slots i _ _ e e2
  subst e3
  exact ⟨v, e2, r⟩
theorem SR.ow {M : Fr} {G H : Hp} {σ : St} {ε : Ev} (s : SR M G H σ ε) {i : Nat} {ds : List D} (e : ε[i]? = some (.ow ds)) : ∃ p vs, σ[i]? = some (some (.ref p)) ∧ G p = none ∧ H p = some (.lst vs) ∧ RpL M.F G ds vs := by
  obtain ⟨o, e2⟩ := s.lt e
  obtain ⟨p, vs, e3, g, h, r⟩ := s.slots i _ _ e e2
  subst e3
  exact ⟨p, vs, e2, g, h, r⟩

/-- the heaps grow: new objects, known (in G) or not; tables may be longer -/
structure Grow (G H G' H' : Hp) : Prop where
  gg : ∀ q o, G q = some o → G' q = some o
  hh : ∀ q o, H q = some o → (∀ ps, o ≠ .tbl ps) → H' q = some o
  hs : ∀ q, H' q = none → H q = none
  gn : ∀ q o, G' q = some o → G q = some o ∨ H q = none
theorem Grow.refl (G H : Hp) : Grow G H G H := ⟨fun _ _ h => h, fun _ _ h _ => h, fun _ h => h, fun _ _ h => .inl h⟩
theorem Grow.step {G H G' H' : Hp} (g : Grow G H G' H') (O : Addr → Prop) : Step G H O G' H' O :=
  ⟨g.gg, fun q o h n _ => g.hh q o h n, g.hs, fun q o h => (g.gn q o h).elim .inl fun z => .inr (.inl z), fun _ h => .inl h⟩
/-- a frame's state over grown heaps -/
theorem SR.grow {M : Fr} {G H G' H' : Hp} {σ : St} {ε : Ev} (s : SR M G H σ ε) (g : Grow G H G' H') (sub : ∀ q o, G' q = some o → H' q = some o) (ntb : ∀ q ps, G' q ≠ some (.tbl ps)) (tabs : LamX.Tabs M.F.T H') : SR M G' H' σ ε where
  sub := sub
  ntb := ntb
  tabs := tabs
  len := s.len
  slots := fun i x o e1 e2 => by
    have h := s.slots i x o e1 e2
    cases x with
    | em => trivial
    | pu d =>
      obtain ⟨v, e, r⟩ := h
      exact ⟨v, e, r.mono g.gg⟩
    | ow ds =>
      obtain ⟨p, vs, e, n, hp, r⟩ := h
      refine ⟨p, vs, e, ?_, g.hh _ _ hp (fun ps z => by cases z), r.mono g.gg⟩
      cases q : G' p with
      | none => rfl
      | some u =>
        rcases g.gn p u q with z | z
        · rw [n] at z; cases z
        · rw [hp] at z; cases z
  inj := s.inj
  cup := s.cup
/-- one new object in both -/
theorem SR.new {M : Fr} {G H : Hp} {σ : St} {ε : Ev} (s : SR M G H σ ε) {p : Addr} {o : HO} (hp : H p = none) (ho : ∀ ps, o ≠ .tbl ps) :
    SR M (upd G p o) (upd H p o) σ ε ∧ Step G H (Own σ ε) (upd G p o) (upd H p o) (Own σ ε) := by
  have gp : G p = none := by
    cases q : G p with
    | none => rfl
    | some u => rw [s.sub p u q] at hp; cases hp
  have g : Grow G H (upd G p o) (upd H p o) := by
    refine ⟨fun q u h => ?_, fun q u h _ => ?_, fun q h => ?_, fun q u h => ?_⟩
    · rw [upd_ne (ne_of_none h gp)]; exact h
    · rw [upd_ne (ne_of_none h hp)]; exact h
    · unfold upd at h
      split at h
      · cases h
      · exact h
    · unfold upd at h
      split at h
      · rename_i e; subst e; exact .inr hp
      · exact .inl h
  refine ⟨s.grow g (fun q u h => ?_) (fun q ps h => ?_) (s.tabs.ext fun q u h => ?_), g.step _⟩
  · unfold upd at h ⊢
    split
    · rename_i e; rw [if_pos e] at h; exact h
    · rename_i e; rw [if_neg e] at h; exact s.sub q u h
  · unfold upd at h
    split at h
    · exact ho ps (Option.some.inj h)
    · exact s.ntb q ps h
  · rw [upd_ne (ne_of_none h hp)]; exact h
/-- one new object in H alone -/
theorem SR.newH {M : Fr} {G H : Hp} {σ : St} {ε : Ev} (s : SR M G H σ ε) {p : Addr} {o : HO} (hp : H p = none) :
    SR M G (upd H p o) σ ε ∧ Step G H (Own σ ε) G (upd H p o) (Own σ ε) ∧ G p = none ∧ ¬ Own σ ε p := by
  have gp : G p = none := by
    cases q : G p with
    | none => rfl
    | some u => rw [s.sub p u q] at hp; cases hp
  have g : Grow G H G (upd H p o) := by
    refine ⟨fun q u h => h, fun q u h _ => ?_, fun q h => ?_, fun q u h => .inl h⟩
    · rw [upd_ne (ne_of_none h hp)]; exact h
    · unfold upd at h
      split at h
      · cases h
      · exact h
  refine ⟨s.grow g (fun q u h => ?_) s.ntb (s.tabs.ext fun q u h => ?_), g.step _, gp, fun z => ?_⟩
  · rw [upd_ne (ne_of_none h gp)]; exact s.sub q u h
  · rw [upd_ne (ne_of_none h hp)]; exact h
  · obtain ⟨_, vs, e⟩ := s.own z
    rw [hp] at e; cases e
end PL
/-! PL, part b: the judgements of expressions and tests; names, constants, operators. -/
namespace PL
open PySem PySem.Spec PyProof.Rows L2

def ErrOk (M : Fr) (W : WX) (G H : Hp) (O : Addr → Prop) (c : Nat) : Prop :=
  ∀ (σ' : St) (G' H' : Hp) (ε' : Ev), SR M G' H' σ' ε' → Step G H O G' H' (Own σ' ε') → W (.ref (M.F.ca c)) none σ' H'

def Post {α β : Type} (M : Fr) (W : WX) (σ : St) (G H : Hp) (ε : Ev) (R : Hp → β → α → Prop) (r : Res (β × Ev)) (Q : α → Hp → Prop) : Prop :=
  match r with
  | .ok p => ∀ a G' H', SR M G' H' σ p.2 → Step G H (Own σ ε) G' H' (Own σ p.2) → R G' p.1 a → Q a H'
  | .err c => ErrOk M W G H (Own σ ε) c
  | .stuck => False

theorem ErrOk.shift {M : Fr} {W : WX} {G H G1 H1 : Hp} {O O1 : Addr → Prop} {c : Nat} (sub : ∀ q o, G1 q = some o → H1 q = some o) (st : Step G H O G1 H1 O1) (h : ErrOk M W G H O c) : ErrOk M W G1 H1 O1 c :=
  fun σ' G' H' ε' s t => h σ' G' H' ε' s (st.trans sub t)
theorem Post.shift {α β : Type} {M : Fr} {W : WX} {σ : St} {G H G1 H1 : Hp} {ε ε1 : Ev} {R : Hp → β → α → Prop} {r : Res (β × Ev)} {Q : α → Hp → Prop}
    (s1 : SR M G1 H1 σ ε1) (st : Step G H (Own σ ε) G1 H1 (Own σ ε1)) (h : Post M W σ G H ε R r Q) : Post M W σ G1 H1 ε1 R r Q := by
  cases r with
  | ok p => exact fun a G' H' s t q => h a G' H' s (st.trans s1.sub t) q
  | err c => exact ErrOk.shift s1.sub st h
  | stuck => exact h

/-- a reading keeps to a function of the slots -/
def Tr {α β : Type} (M : Fr) (W : WX) (R : Hp → β → α → Prop) (t : St → Hp → (α → Hp → Prop) → Prop) (f : Ev → Res (β × Ev)) : Prop :=
  ∀ (σ : St) (G H : Hp) (ε : Ev), SR M G H σ ε → ∀ Q : α → Hp → Prop, Post M W σ G H ε R (f ε) Q → t σ H Q

/-- one reading, then another -/
theorem Tr.bind {α β α' β' : Type} {M : Fr} {W : WX} {R : Hp → β → α → Prop} {R' : Hp → β' → α' → Prop} {t : St → Hp → (α → Hp → Prop) → Prop} {f : Ev → Res (β × Ev)}
    {t2 : α → St → Hp → (α' → Hp → Prop) → Prop} {f2 : β → Ev → Res (β' × Ev)} (h1 : Tr M W R t f)
    (h2 : ∀ (b : β) (a : α) (σ : St) (G H : Hp) (ε : Ev), SR M G H σ ε → R G b a → ∀ Q, Post M W σ G H ε R' (f2 b ε) Q → t2 a σ H Q) :
    Tr M W R' (fun σ H Q => t σ H fun a H1 => t2 a σ H1 Q) (fun ε => (f ε).bind fun p => f2 p.1 p.2) := by
  intro σ G H ε s Q hp
  refine h1 σ G H ε s _ ?_
  have hp' : Post M W σ G H ε R' ((f ε).bind fun p => f2 p.1 p.2) Q := hp
  cases e : f ε with
  | stuck => rw [e] at hp'; exact hp'
  | err c => rw [e] at hp'; exact hp'
  | ok p =>
    rw [e] at hp'
    intro a G1 H1 s1 st1 r1
    exact h2 p.1 a σ G1 H1 p.2 s1 r1 Q (hp'.shift s1 st1)

/-- two values, then an operation of values -/
def OpT (M : Fr) (W : WX) (r : R2) (op : D → D → Res D) : Prop :=
  ∀ (x y : D) (v w : V) (σ : St) (G H : Hp) (ε : Ev), SR M G H σ ε → Rp M.F G x v → Rp M.F G y w → ∀ Q : VK,
    Post M W σ G H ε (Rp M.F) ((op x y).bind fun d => .ok (d, ε)) Q → r v w H Q
def UnT (M : Fr) (W : WX) (r : V → Hp → VK → Prop) (op : D → Res D) : Prop :=
  ∀ (x : D) (v : V) (σ : St) (G H : Hp) (ε : Ev), SR M G H σ ε → Rp M.F G x v → ∀ Q : VK,
    Post M W σ G H ε (Rp M.F) ((op x).bind fun d => .ok (d, ε)) Q → r v H Q

@[reducible, simp] def eOp (op : D → D → Res D) (fa fb : Ev → Res (D × Ev)) : Ev → Res (D × Ev) := fun ε =>
  (fa ε).bind fun p => (fb p.2).bind fun q => (op p.1 q.1).bind fun d => .ok (d, q.2)
@[reducible, simp] def eUn (op : D → Res D) (fa : Ev → Res (D × Ev)) : Ev → Res (D × Ev) := fun ε =>
  (fa ε).bind fun p => (op p.1).bind fun d => .ok (d, p.2)

theorem tr_op {M : Fr} {W : WX} {r : R2} {op : D → D → Res D} {ta tb : TE} {fa fb : Ev → Res (D × Ev)} (ho : OpT M W r op) (ha : Tr M W (Rp M.F) ta fa) (hb : Tr M W (Rp M.F) tb fb) : Tr M W (Rp M.F) (tOp r ta tb) (eOp op fa fb) := by
  refine Tr.bind (f2 := fun x ε => (fb ε).bind fun q => (op x q.1).bind fun d => .ok (d, q.2)) (t2 := fun v σ H1 Q => tb σ H1 fun y H2 => r v y H2 Q) ha ?_
  intro x v σ G H ε s rx Q hp
  refine hb σ G H ε s _ ?_
  cases e : fb ε with
  | stuck => rw [e] at hp; exact hp
  | err c => rw [e] at hp; exact hp
  | ok q =>
    rw [e] at hp
    intro w G1 H1 s1 st1 ry
    exact ho x q.1 v w σ G1 H1 q.2 s1 (rx.mono st1.gg) ry Q (hp.shift s1 st1)
theorem tr_un {M : Fr} {W : WX} {r : V → Hp → VK → Prop} {op : D → Res D} {ta : TE} {fa : Ev → Res (D × Ev)} (ho : UnT M W r op) (ha : Tr M W (Rp M.F) ta fa) : Tr M W (Rp M.F) (tUn r ta) (eUn op fa) := by
  refine Tr.bind (f2 := fun x ε => (op x).bind fun d => .ok (d, ε)) (t2 := fun v σ H1 Q => r v H1 Q) ha ?_
  intro x v σ G H ε s rx Q hp
  exact ho x v σ G H ε s rx Q hp

/-! ### the context -/
structure CO (M : Fr) (W : WX) (k : Nat) (X : Cx) : Prop where
  hK : X.K = M.F.K
  calm : X.calm = true
  tk : Takes X W
  nd : X.N.Nodup
  hr : Room k X.A
  po : PassesOwn (model X.prog X.w) X.A X.env X.xe

def PV (M : Fr) (W : WX) (X : Cx) (e : Expr) (f : Ev → Res (D × Ev)) : Prop := ∃ t, PE X e t ∧ Tr M W (Rp M.F) t f
def RB : Hp → Bool → Bool → Prop := fun _ b c => b = c
def PB (M : Fr) (W : WX) (X : Cx) (e : Expr) (f : Ev → Res (Bool × Ev)) : Prop := ∃ t, PT X e t ∧ Tr M W RB t f
def PBW (M : Fr) (W : WX) (X : Cx) (e : Expr) (f : Ev → Res (Bool × Ev)) : Prop := ∃ t, PW X e t ∧ Tr M W RB t f
def PVs (M : Fr) (W : WX) (X : Cx) (es : List Expr) (f : Ev → Res (List D × Ev)) : Prop := ∃ t, PA X es t ∧ Tr M W (RpL M.F) t f

/-! ### names and constants -/
@[reducible, simp] def eC (d : D) : Ev → Res (D × Ev) := fun ε => .ok (d, ε)
@[reducible, simp] def getPu (ε : Ev) (i : Nat) : Res D := match ε[i]? with
  | some (.pu d) => .ok d
  | _ => .stuck
@[reducible, simp] def eV (i : Nat) : Ev → Res (D × Ev) := fun ε => (getPu ε i).bind fun d => .ok (d, ε)

theorem Tr.const {M : Fr} {W : WX} {d : D} {v : V} (h : ∀ G, Rp M.F G d v) : Tr M W (Rp M.F) (tC v) (eC d) := fun σ G H ε s Q hp =>
  hp v G H s (Step.refl ..) (h G)
theorem tr_var {M : Fr} {W : WX} (i : Nat) : Tr M W (Rp M.F) (tVar i) (eV i) := by
  intro σ G H ε s Q hp
  cases e : ε[i]? with
  | none => simp [eV, getPu, e, Post] at hp
  | some x =>
    cases x with
    | em => simp [eV, getPu, e, Post] at hp
    | ow ds => simp [eV, getPu, e, Post] at hp
    | pu d =>
      obtain ⟨v, e2, r⟩ := s.pu e
      simp only [eV, getPu, e, Res.bind_ok, Post] at hp
      exact ⟨v, e2, hp v G H s (Step.refl ..) r⟩

section
variable {M : Fr} {W : WX} {X : Cx} {k : Nat}
theorem pv_int {i : Int} {j pos} : PV M W X (.Constant (.int i) j pos) (eC (.int i)) := ⟨_, pe_int, Tr.const fun _ => by simp only [Rp]⟩
theorem pv_bl {b : Bool} {j pos} : PV M W X (.Constant (.bool b) j pos) (eC (.bl b)) := ⟨_, pe_bl, Tr.const fun _ => by simp only [Rp]⟩
theorem pv_non {j pos} : PV M W X (.Constant .none j pos) (eC .non) := ⟨_, pe_non, Tr.const fun _ => by simp only [Rp]⟩
theorem pv_str {x : Str} {j pos} : PV M W X (.Constant (.str x) j pos) (eC (.str x)) := ⟨_, pe_str, Tr.const fun _ => by simp only [Rp]⟩
theorem pv_var (i : Nat) {x : Str} {pos : Pos} (hN : X.N[i]? = some x := by rfl) (hv : Vis X.env.scope x := by first | exact Or.inl rfl | exact Or.inr (Or.inl rfl) | exact Or.inr (Or.inr rfl)) (hd : (x == ("__debug__" : Str)) = false := by decide)
    (hcd : (x == ("__classdict__" : Str)) = false := by decide) : PV M W X (.Name x pos) (eV i) := ⟨_, pe_var hN hv hd hcd, tr_var i⟩
theorem pv_glob {x : Str} {v : V} {u : Value} {d : D} {pos : Pos} (hm : X.mg x = some u) (r : RelV v u) (hd : ∀ G, Rp M.F G d v) (hg : Gl X x := by rfl) (hdb : (x == ("__debug__" : Str)) = false := by decide) : PV M W X (.Name x pos) (eC d) :=
  ⟨_, pe_glob hg hm r hdb, Tr.const hd⟩

/-! ### arithmetic -/
@[simp] def dSub : D → D → Res D
  | .int i, .int j => .ok (.int (i - j))
  | _, _ => .stuck
def mulOk (i j : Int) : Bool := decide (i.natAbs.log2 + j.natAbs.log2 < 134000000) || decide (i.natAbs.log2 < 60) || decide (j.natAbs.log2 < 60)
def divOk (j : Int) : Bool := decide (j ≠ 0 ∧ j.natAbs.log2 < 9000)
def dDiv : D → D → Res D
  | .int i, .int j => if divOk j then .ok (.int (i.fdiv j)) else .stuck
  | _, _ => .stuck
def dMod : D → D → Res D
  | .int i, .int j => if j = 0 then .stuck else .ok (.int (i.fmod j))
  | _, _ => .stuck
def powOk (i j : Int) : Bool := decide (0 ≤ j ∧ j ≤ 1000000 ∧ i.natAbs < 2 ^ 64)
def dPow : D → D → Res D
  | .int i, .int j => if powOk i j then .ok (.int (i ^ j.toNat)) else .stuck
  | _, _ => .stuck
def dShl : D → D → Res D
  | .int i, .int j => if powOk i j then .ok (.int (i * 2 ^ j.toNat)) else .stuck
  | _, _ => .stuck
@[simp] def dNeg : D → Res D
  | .int i => .ok (.int (-i))
  | _ => .stuck
@[simp] def dCmp (p : Int → Int → Bool) : D → D → Res D
  | .int i, .int j => .ok (.bl (p i j))
  | _, _ => .stuck

theorem rp_int {F : Fx} {G : Hp} {i : Int} {v : V} : Rp F G (.int i) v ↔ v = .int i := by simp only [Rp]
theorem rp_bl {F : Fx} {G : Hp} {i : Bool} {v : V} : Rp F G (.bl i) v ↔ v = .bl i := by simp only [Rp]
theorem rp_str {F : Fx} {G : Hp} {i : Str} {v : V} : Rp F G (.str i) v ↔ v = .str i := by simp only [Rp]
theorem rp_non {F : Fx} {G : Hp} {v : V} : Rp F G .non v ↔ v = .non := by simp only [Rp]
theorem rp_lst {F : Fx} {G : Hp} {ds : List D} {v : V} : Rp F G (.lst ds) v ↔ ∃ a vs, v = .ref a ∧ G a = some (.lst vs) ∧ RpL F G ds vs := by simp only [Rp]
theorem rp_tup {F : Fx} {G : Hp} {ds : List D} {v : V} : Rp F G (.tup ds) v ↔ ∃ a vs, v = .ref a ∧ SqT F.K G a vs ∧ RpL F G ds vs := by simp only [Rp]

/-- two ints: the shape of most operators -/
theorem opT_int {r : R2} {op : D → D → Res D} (h : ∀ i j d, op (.int i) (.int j) = .ok d → ∃ v, (∀ F G, Rp F G d v) ∧ ∀ H (Q : VK), Q v H → r (.int i) (.int j) H Q) (hn : ∀ i j c, op (.int i) (.int j) ≠ .err c)
    (ho : ∀ x y, (∀ i j, ¬ (x = .int i ∧ y = .int j)) → op x y = .stuck) : OpT M W r op := by
  intro x y v w σ G H ε s rx ry Q hp
  by_cases hi : ∃ i j, x = D.int i ∧ y = D.int j
  · obtain ⟨i, j, rfl, rfl⟩ := hi
    rw [rp_int] at rx ry
    subst rx ry
    cases e : op (.int i) (.int j) with
    | stuck => rw [e] at hp; exact hp.elim
    | err c => exact absurd e (hn i j c)
    | ok d =>
      rw [e] at hp
      obtain ⟨v, hv, hr⟩ := h i j d e
      exact hr H Q (hp v G H s (Step.refl ..) (hv M.F G))
  · rw [ho x y fun i j z => hi ⟨i, j, z⟩] at hp
    exact hp.elim

theorem not_ints {op : D → D → Res D} (h1 : ∀ x y, (∀ i, x ≠ .int i) → op x y = .stuck) (h2 : ∀ x y, (∀ i, y ≠ .int i) → op x y = .stuck) (x y : D) (h : ∀ i j, ¬ (x = .int i ∧ y = .int j)) : op x y = .stuck := by
  cases x with
  | int i =>
    refine h2 _ y fun j e => h i j ⟨rfl, e⟩
  | _ => exact h1 _ y fun i e => by cases e

theorem opT_sub : OpT M W (rI0 fun i j => .int (i - j)) dSub := by
  refine opT_int (fun i j d e => ?_) (fun i j c e => by simp [dSub] at e) (not_ints (fun x y h => ?_) fun x y h => ?_)
  · simp only [dSub, Res.ok.injEq] at e
    subst e
    exact ⟨_, fun F G => rp_int.mpr rfl, fun H Q q => ⟨i, j, rfl, rfl, q⟩⟩
  · cases x <;> first | rfl | exact absurd rfl (h _)
  · cases y <;> first | (cases x <;> rfl) | exact absurd rfl (h _)
theorem opT_div : OpT M W (rI (fun i j => divOk j = true) fun i j => .int (i.fdiv j)) dDiv := by
  refine opT_int (fun i j d e => ?_) (fun i j c e => by simp only [dDiv] at e; split at e <;> cases e) (not_ints (fun x y h => ?_) fun x y h => ?_)
  · simp only [dDiv] at e
    split at e
    · rename_i hd
      simp only [Res.ok.injEq] at e
      subst e
      exact ⟨_, fun F G => rp_int.mpr rfl, fun H Q q => ⟨i, j, rfl, rfl, hd, q⟩⟩
    · cases e
  · cases x <;> first | rfl | exact absurd rfl (h _)
  · cases y <;> first | (cases x <;> rfl) | exact absurd rfl (h _)
theorem opT_mod : OpT M W (rI (fun _ j => j ≠ 0) fun i j => .int (i.fmod j)) dMod := by
  refine opT_int (fun i j d e => ?_) (fun i j c e => by simp only [dMod] at e; split at e <;> cases e) (not_ints (fun x y h => ?_) fun x y h => ?_)
  · simp only [dMod] at e
    split at e
    · cases e
    · rename_i hd
      simp only [Res.ok.injEq] at e
      subst e
      exact ⟨_, fun F G => rp_int.mpr rfl, fun H Q q => ⟨i, j, rfl, rfl, hd, q⟩⟩
  · cases x <;> first | rfl | exact absurd rfl (h _)
  · cases y <;> first | (cases x <;> rfl) | exact absurd rfl (h _)
theorem opT_pow : OpT M W (rI CPow fun i j => .int (i ^ j.toNat)) dPow := by
  refine opT_int (fun i j d e => ?_) (fun i j c e => by simp only [dPow] at e; split at e <;> cases e) (not_ints (fun x y h => ?_) fun x y h => ?_)
  · simp only [dPow] at e
    split at e
    · rename_i hd
      simp only [Res.ok.injEq] at e
      subst e
      exact ⟨_, fun F G => rp_int.mpr rfl, fun H Q q => ⟨i, j, rfl, rfl, (of_decide_eq_true hd : 0 ≤ j ∧ j ≤ 1000000 ∧ i.natAbs < 2 ^ 64), q⟩⟩
    · cases e
  · cases x <;> first | rfl | exact absurd rfl (h _)
  · cases y <;> first | (cases x <;> rfl) | exact absurd rfl (h _)
theorem opT_shl : OpT M W (rI CPow fun i j => .int (i * 2 ^ j.toNat)) dShl := by
  refine opT_int (fun i j d e => ?_) (fun i j c e => by simp only [dShl] at e; split at e <;> cases e) (not_ints (fun x y h => ?_) fun x y h => ?_)
  · simp only [dShl] at e
    split at e
    · rename_i hd
      simp only [Res.ok.injEq] at e
      subst e
      exact ⟨_, fun F G => rp_int.mpr rfl, fun H Q q => ⟨i, j, rfl, rfl, (of_decide_eq_true hd : 0 ≤ j ∧ j ≤ 1000000 ∧ i.natAbs < 2 ^ 64), q⟩⟩
    · cases e
  · cases x <;> first | rfl | exact absurd rfl (h _)
  · cases y <;> first | (cases x <;> rfl) | exact absurd rfl (h _)
theorem opT_cmp (p : Int → Int → Bool) : OpT M W (rI0 fun i j => .bl (p i j)) (dCmp p) := by
  refine opT_int (fun i j d e => ?_) (fun i j c e => by simp [dCmp] at e) (not_ints (fun x y h => ?_) fun x y h => ?_)
  · simp only [dCmp, Res.ok.injEq] at e
    subst e
    exact ⟨_, fun F G => rp_bl.mpr rfl, fun H Q q => ⟨i, j, rfl, rfl, q⟩⟩
  · cases x <;> first | rfl | exact absurd rfl (h _)
  · cases y <;> first | (cases x <;> rfl) | exact absurd rfl (h _)
theorem unT_neg : UnT M W (rU fun i => .int (-i)) dNeg := by
  intro x v σ G H ε s rx Q hp
  cases x with
  | int i =>
    rw [rp_int] at rx
    subst rx
    exact ⟨i, rfl, hp _ G H s (Step.refl ..) (rp_int.mpr rfl)⟩
  | _ => exact hp.elim
theorem op_fdivWN : OpR X (binaryOp .FloorDiv) (rI (fun i j => divOk j = true) fun i j => .int (i.fdiv j)) := opI fun _ j _ _ _ _ _ hc q => by
  have hd := of_decide_eq_true hc
  exact floordiv_int hd.1 q (.inl (PyProof.noPylong_of_log2 hd.2))

variable {a b : Expr} {fa fb : Ev → Res (D × Ev)} {pos : Pos}
theorem pv_sub (ha : PV M W X a fa) (hb : PV M W X b fb) : PV M W X (.BinOp a .Sub b pos) (eOp dSub fa fb) := by
  obtain ⟨ta, ea, qa⟩ := ha
  obtain ⟨tb, eb, qb⟩ := hb
  exact ⟨_, pe_op op_sub ea eb, tr_op opT_sub qa qb⟩
theorem pv_div (ha : PV M W X a fa) (hb : PV M W X b fb) : PV M W X (.BinOp a .FloorDiv b pos) (eOp dDiv fa fb) := by
  obtain ⟨ta, ea, qa⟩ := ha
  obtain ⟨tb, eb, qb⟩ := hb
  exact ⟨_, pe_op op_fdivWN ea eb, tr_op opT_div qa qb⟩
theorem pv_mod (ha : PV M W X a fa) (hb : PV M W X b fb) : PV M W X (.BinOp a .Mod b pos) (eOp dMod fa fb) := by
  obtain ⟨ta, ea, qa⟩ := ha
  obtain ⟨tb, eb, qb⟩ := hb
  exact ⟨_, pe_op op_modN ea eb, tr_op opT_mod qa qb⟩
theorem pv_pow (ha : PV M W X a fa) (hb : PV M W X b fb) : PV M W X (.BinOp a .Pow b pos) (eOp dPow fa fb) := by
  obtain ⟨ta, ea, qa⟩ := ha
  obtain ⟨tb, eb, qb⟩ := hb
  exact ⟨_, pe_op op_pow ea eb, tr_op opT_pow qa qb⟩
theorem pv_shl (ha : PV M W X a fa) (hb : PV M W X b fb) : PV M W X (.BinOp a .LShift b pos) (eOp dShl fa fb) := by
  obtain ⟨ta, ea, qa⟩ := ha
  obtain ⟨tb, eb, qb⟩ := hb
  exact ⟨_, pe_op op_shl ea eb, tr_op opT_shl qa qb⟩
theorem pv_neg (ha : PV M W X a fa) : PV M W X (.UnaryOp .USub a pos) (eUn dNeg fa) := by
  obtain ⟨ta, ea, qa⟩ := ha
  exact ⟨_, pe_un un_neg ea, tr_un unT_neg qa⟩

/-! ### comparisons -/
@[simp] abbrev dLt := dCmp fun i j => decide (i < j)
@[simp] abbrev dLe := dCmp fun i j => decide (i ≤ j)
@[simp] abbrev dGt := dCmp fun i j => decide (j < i)
@[simp] abbrev dGe := dCmp fun i j => decide (j ≤ i)
/-- a comparison's operator, its rule, its function -/
structure CmpR (M : Fr) (W : WX) (X : Cx) (op : CmpOp) (g : D → D → Res D) : Prop where
  ex : ∃ r, OpR X (compareOp op) r ∧ OpT M W r g
theorem cm_lt : CmpR M W X .Lt dLt := ⟨_, op_lt, opT_cmp _⟩
theorem cm_le : CmpR M W X .LtE dLe := ⟨_, op_le, opT_cmp _⟩
theorem cm_gt : CmpR M W X .Gt dGt := ⟨_, op_gt, opT_cmp _⟩
theorem cm_ge : CmpR M W X .GtE dGe := ⟨_, op_ge, opT_cmp _⟩
theorem pv_cmp {op : CmpOp} {g : D → D → Res D} (h : CmpR M W X op g) (ha : PV M W X a fa) (hb : PV M W X b fb) (hm : behindInMarks op b = false := by first | exact nomark _ | rfl) : PV M W X (.Compare a [op] [b] pos) (eOp g fa fb) := by
  obtain ⟨r, h1, h2⟩ := h.ex
  obtain ⟨ta, ea, qa⟩ := ha
  obtain ⟨tb, eb, qb⟩ := hb
  exact ⟨_, pe_cmpR h1 ea eb hm, tr_op h2 qa qb⟩

/-! ### tests -/
@[reducible, simp] def asB (d : D) : Res Bool := match d with
  | .bl b => .ok b
  | _ => .stuck
@[reducible, simp] def bOf (f : Ev → Res (D × Ev)) : Ev → Res (Bool × Ev) := fun ε => (f ε).bind fun p => (asB p.1).bind fun b => .ok (b, p.2)
theorem tr_test {t : TE} {f : Ev → Res (D × Ev)} (h : Tr M W (Rp M.F) t f) : Tr M W RB (tTest t) (bOf f) := by
  refine Tr.bind (f2 := fun d ε => (asB d).bind fun b => .ok (b, ε)) (t2 := fun v σ H1 Q => ∃ k, v = .bl k ∧ Q k H1) h ?_
  intro d v σ G H ε s rd Q hp
  cases d with
  | bl b =>
    rw [rp_bl] at rd
    exact ⟨b, rd, hp b G H s (Step.refl ..) rfl⟩
  | _ => exact hp.elim
theorem tB_eq (t : TE) : tB t = tTest t := rfl
/-- an expression that gives a bool, as a test -/
theorem pb_val (ha : PV M W X a fa) (he : ∀ whole, isTrue a X.env whole = (do let v ← whole; standAt a.pos; holding [v] (truthy v)) := by intro _; rfl) : PB M W X a (bOf fa) := by
  obtain ⟨ta, ea, qa⟩ := ha
  exact ⟨_, pt_val ea he, by rw [tB_eq]; exact tr_test qa⟩
theorem pb_cmp {op : CmpOp} {g : D → D → Res D} (h : CmpR M W X op g) (ha : PV M W X a fa) (hb : PV M W X b fb) (hm : behindInMarks op b = false := by first | exact nomark _ | rfl) : PB M W X (.Compare a [op] [b] pos) (bOf (eOp g fa fb)) := by
  obtain ⟨r, h1, h2⟩ := h.ex
  obtain ⟨ta, ea, qa⟩ := ha
  obtain ⟨tb, eb, qb⟩ := hb
  exact ⟨_, pt_cmpR h1 ea eb hm, tr_test (tr_op h2 qa qb)⟩
@[reducible, simp] def bNot (f : Ev → Res (Bool × Ev)) : Ev → Res (Bool × Ev) := fun ε => (f ε).bind fun p => .ok (!p.1, p.2)
@[reducible, simp] def bAnd (f g : Ev → Res (Bool × Ev)) : Ev → Res (Bool × Ev) := fun ε => (f ε).bind fun p => if p.1 then g p.2 else .ok (false, p.2)
@[reducible, simp] def bOr (f g : Ev → Res (Bool × Ev)) : Ev → Res (Bool × Ev) := fun ε => (f ε).bind fun p => if p.1 then .ok (true, p.2) else g p.2
variable {ba bb : Ev → Res (Bool × Ev)} {rest : List Expr}
theorem pb_not (ha : PB M W X a ba) : PB M W X (.UnaryOp .Not a pos) (bNot ba) := by
  obtain ⟨ta, ea, qa⟩ := ha
  refine ⟨_, pt_not ea, Tr.bind (f2 := fun b ε => .ok (!b, ε)) (t2 := fun c σ H1 Q => Q (!c) H1) qa ?_⟩
  intro b c σ G H ε s r Q hp
  exact hp _ G H s (Step.refl ..) (by simp only [RB] at r ⊢; rw [r])
theorem pb_and1 (ha : PB M W X a ba) : PBW M W X (.BoolOp .And [a] pos) ba := by
  obtain ⟨ta, ea, qa⟩ := ha
  exact ⟨_, pw_and1 ea, qa⟩
theorem pb_or1 (ha : PB M W X a ba) : PBW M W X (.BoolOp .Or [a] pos) ba := by
  obtain ⟨ta, ea, qa⟩ := ha
  exact ⟨_, pw_or1 ea, qa⟩
theorem pb_and (ha : PB M W X a ba) (hb : PBW M W X (.BoolOp .And (b :: rest) pos) bb) : PBW M W X (.BoolOp .And (a :: b :: rest) pos) (bAnd ba bb) := by
  obtain ⟨ta, ea, qa⟩ := ha
  obtain ⟨tb, eb, qb⟩ := hb
  refine ⟨_, pw_and ea eb, Tr.bind (f2 := fun c ε => if c then bb ε else .ok (false, ε)) (t2 := fun c σ H1 Q => if c = true then tb σ H1 Q else Q false H1) qa ?_⟩
  intro c c' σ G H ε s r Q hp
  simp only [RB] at r
  subst r
  cases c with
  | true => exact qb σ G H ε s Q hp
  | false => exact hp false G H s (Step.refl ..) rfl
theorem pb_or (ha : PB M W X a ba) (hb : PBW M W X (.BoolOp .Or (b :: rest) pos) bb) : PBW M W X (.BoolOp .Or (a :: b :: rest) pos) (bOr ba bb) := by
  obtain ⟨ta, ea, qa⟩ := ha
  obtain ⟨tb, eb, qb⟩ := hb
  refine ⟨_, pw_or ea eb, Tr.bind (f2 := fun c ε => if c then .ok (true, ε) else bb ε) (t2 := fun c σ H1 Q => if c = true then Q true H1 else tb σ H1 Q) qa ?_⟩
  intro c c' σ G H ε s r Q hp
  simp only [RB] at r
  subst r
  cases c with
  | true => exact hp true G H s (Step.refl ..) rfl
  | false => exact qb σ G H ε s Q hp
theorem PBW.pb (h : PBW M W X a ba) : PB M W X a ba := by
  obtain ⟨t, e, q⟩ := h
  exact ⟨t, e.pt, q⟩
/-! .. as values -/
@[reducible, simp] def eNot (f : Ev → Res (D × Ev)) : Ev → Res (D × Ev) := fun ε => (f ε).bind fun p => (asB p.1).bind fun b => .ok (.bl (!b), p.2)
@[reducible, simp] def eAnd (f g : Ev → Res (D × Ev)) : Ev → Res (D × Ev) := fun ε => (f ε).bind fun p => (asB p.1).bind fun b => if b then g p.2 else .ok (.bl false, p.2)
@[reducible, simp] def eOr (f g : Ev → Res (D × Ev)) : Ev → Res (D × Ev) := fun ε => (f ε).bind fun p => (asB p.1).bind fun b => if b then .ok (.bl true, p.2) else g p.2
theorem pv_one {op} (ha : PV M W X a fa) : PV M W X (.BoolOp op [a] pos) fa := by
  obtain ⟨ta, ea, qa⟩ := ha
  exact ⟨_, pe_one ea, qa⟩
theorem pv_and (ha : PV M W X a fa) (hb : PV M W X (.BoolOp .And (b :: rest) pos) fb) : PV M W X (.BoolOp .And (a :: b :: rest) pos) (eAnd fa fb) := by
  obtain ⟨ta, ea, qa⟩ := ha
  obtain ⟨tb, eb, qb⟩ := hb
  refine ⟨_, pe_and ea eb, Tr.bind (f2 := fun x ε => (asB x).bind fun b => if b then fb ε else .ok (.bl false, ε)) (t2 := fun x σ H1 Q => ∃ c, x = .bl c ∧ if c = true then tb σ H1 Q else Q (.bl false) H1) qa ?_⟩
  intro x v σ G H ε s r Q hp
  cases x with
  | bl c =>
    rw [rp_bl] at r
    refine ⟨c, r, ?_⟩
    cases c with
    | true => exact qb σ G H ε s Q hp
    | false => exact hp _ G H s (Step.refl ..) (rp_bl.mpr rfl)
  | _ => exact hp.elim
theorem pv_or (ha : PV M W X a fa) (hb : PV M W X (.BoolOp .Or (b :: rest) pos) fb) : PV M W X (.BoolOp .Or (a :: b :: rest) pos) (eOr fa fb) := by
  obtain ⟨ta, ea, qa⟩ := ha
  obtain ⟨tb, eb, qb⟩ := hb
  refine ⟨_, pe_or ea eb, Tr.bind (f2 := fun x ε => (asB x).bind fun b => if b then .ok (.bl true, ε) else fb ε) (t2 := fun x σ H1 Q => ∃ c, x = .bl c ∧ if c = true then Q (.bl true) H1 else tb σ H1 Q) qa ?_⟩
  intro x v σ G H ε s r Q hp
  cases x with
  | bl c =>
    rw [rp_bl] at r
    refine ⟨c, r, ?_⟩
    cases c with
    | false => exact qb σ G H ε s Q hp
    | true => exact hp _ G H s (Step.refl ..) (rp_bl.mpr rfl)
  | _ => exact hp.elim
theorem pv_not (ha : PV M W X a fa) : PV M W X (.UnaryOp .Not a pos) (eNot fa) := by
  obtain ⟨ta, ea, qa⟩ := ha
  refine ⟨_, pe_not ea, Tr.bind (f2 := fun x ε => (asB x).bind fun b => .ok (D.bl (!b), ε)) (t2 := fun x σ H1 (Q : VK) => ∃ c, x = V.bl c ∧ Q (V.bl (!c)) H1) qa ?_⟩
  intro x v σ G H ε s r Q hp
  cases x with
  | bl c =>
    rw [rp_bl] at r
    exact ⟨c, r, hp _ G H s (Step.refl ..) (rp_bl.mpr rfl)⟩
  | _ => exact hp.elim
@[reducible, simp] def eIf (c : Ev → Res (Bool × Ev)) (f g : Ev → Res (D × Ev)) : Ev → Res (D × Ev) := fun ε => (c ε).bind fun p => if p.1 then f p.2 else g p.2
theorem pv_ifExp {t : Expr} (hc : PB M W X t ba) (ha : PV M W X a fa) (hb : PV M W X b fb) : PV M W X (.IfExp t a b pos) (eIf ba fa fb) := by
  obtain ⟨tc, ec, qc⟩ := hc
  obtain ⟨ta, ea, qa⟩ := ha
  obtain ⟨tb, eb, qb⟩ := hb
  refine ⟨_, pe_ifExp ec ea eb, Tr.bind (f2 := fun c ε => if c then fa ε else fb ε) (t2 := fun c σ H1 Q => if c = true then ta σ H1 Q else tb σ H1 Q) qc ?_⟩
  intro c c' σ G H ε s r Q hp
  simp only [RB] at r
  subst r
  cases c with
  | true => exact qa σ G H ε s Q hp
  | false => exact qb σ G H ε s Q hp
end
end PL
/-! PL, part c: displays, new lists, subscripts, +, *, ==, calls of built-ins. -/
namespace PL
open PySem PySem.Spec PyProof.Rows L2

/-! ### argument lists -/
@[reducible, simp] def aNil : Ev → Res (List D × Ev) := fun ε => .ok ([], ε)
@[reducible, simp] def aCons (f : Ev → Res (D × Ev)) (g : Ev → Res (List D × Ev)) : Ev → Res (List D × Ev) := fun ε => (f ε).bind fun p => (g p.2).bind fun q => .ok (p.1 :: q.1, q.2)
/-- the list of arguments has their number -/
def LenOk (n : Nat) (f : Ev → Res (List D × Ev)) : Prop := ∀ ε p, f ε = .ok p → p.1.length = n
def PA' (M : Fr) (W : WX) (X : Cx) (es : List Expr) (f : Ev → Res (List D × Ev)) : Prop := (∃ t, PA X es t ∧ Tr M W (RpL M.F) t f) ∧ LenOk es.length f

section
variable {M : Fr} {W : WX} {X : Cx} {k : Nat} {a b e : Expr} {es rest : List Expr} {fa fb f : Ev → Res (D × Ev)} {g : Ev → Res (List D × Ev)} {pos : Pos}
theorem pa_nil' : PA' M W X [] aNil := by
  refine ⟨⟨_, L2.pa_nil, fun σ G H ε s Q hp => hp [] G H s (Step.refl ..) RpL.nil⟩, fun ε p e => ?_⟩
  cases e; rfl
theorem pa_cons' (ha : PV M W X a fa) (hg : PA' M W X es g) (hs : starEach (a :: es) X.env = (false, eval a X.env) :: starEach es X.env := by rfl) : PA' M W X (a :: es) (aCons fa g) := by
  obtain ⟨ta, ea, qa⟩ := ha
  obtain ⟨⟨tg, eg, qg⟩, hl⟩ := hg
  refine ⟨⟨_, L2.pa_cons ea eg hs, Tr.bind (f2 := fun x ε => (g ε).bind fun q => .ok (x :: q.1, q.2)) (t2 := fun v σ H1 (Q : List V → Hp → Prop) => tg σ H1 fun xs H2 => Q (v :: xs) H2) qa ?_⟩, fun ε p e => ?_⟩
  · intro x v σ G H ε s rx Q hp
    refine qg σ G H ε s _ ?_
    cases e : g ε with
    | stuck => rw [e] at hp; exact hp
    | err c => rw [e] at hp; exact hp
    | ok q =>
      rw [e] at hp
      intro xs G1 H1 s1 st1 rs
      exact hp _ G1 H1 s1 st1 (RpL.cons (rx.mono st1.gg) rs)
  · change ((fa ε).bind fun p => (g p.2).bind fun q => Res.ok (p.1 :: q.1, q.2)) = .ok p at e
    cases e1 : fa ε with
    | stuck => rw [e1] at e; cases e
    | err c => rw [e1] at e; cases e
    | ok q =>
      rw [e1] at e
      try simp only [Res.bind_ok] at e
      cases e2 : g q.2 with
      | stuck => rw [e2] at e; cases e
      | err c => rw [e2] at e; cases e
      | ok q2 =>
        rw [e2] at e
        simp only [Res.bind_ok, Res.ok.injEq] at e
        subst e
        simp [hl _ _ e2]

/-! ### new lists -/
def PostN (M : Fr) (W : WX) (σ : St) (G H : Hp) (ε : Ev) (r : Res (List D × Ev)) (Q : VK) : Prop :=
  match r with
  | .ok p => ∀ a vs G' H', SR M G' H' σ p.2 → Step G H (Own σ ε) G' H' (Own σ p.2) → G' a = none → H' a = some (.lst vs) → RpL M.F G' p.1 vs → H a = none → ¬ Own σ p.2 a → Q (.ref a) H'
  | .err c => ErrOk M W G H (Own σ ε) c
  | .stuck => False
def TrN (M : Fr) (W : WX) (t : TE) (f : Ev → Res (List D × Ev)) : Prop := ∀ (σ : St) (G H : Hp) (ε : Ev), SR M G H σ ε → ∀ Q, PostN M W σ G H ε (f ε) Q → t σ H Q
def PN (M : Fr) (W : WX) (X : Cx) (e : Expr) (f : Ev → Res (List D × Ev)) : Prop := ∃ t, PE X e t ∧ TrN M W t f
theorem PostN.shift {σ : St} {G H G1 H1 : Hp} {ε ε1 : Ev} {r : Res (List D × Ev)} {Q : VK}
    (s1 : SR M G1 H1 σ ε1) (st : Step G H (Own σ ε) G1 H1 (Own σ ε1)) (h : PostN M W σ G H ε r Q) : PostN M W σ G1 H1 ε1 r Q := by
  cases r with
  | ok p => exact fun a vs G' H' s t n hp r nh no => h a vs G' H' s (st.trans s1.sub t) n hp r (st.hs a nh) no
  | err c => exact ErrOk.shift s1.sub st h
  | stuck => exact h

/-- a list is known from now on -/
theorem SR.freeze {G H : Hp} {σ : St} {ε : Ev} (s : SR M G H σ ε) {p : Addr} {vs : List V} (gp : G p = none) (hp : H p = some (.lst vs)) (no : ¬ Own σ ε p) : SR M (upd G p (.lst vs)) H σ ε where
  sub := fun q o h => by
    unfold upd at h
    split at h
    · rename_i e; subst e; rw [hp]; exact h
    · exact s.sub q o h
  ntb := fun q ps h => by
    unfold upd at h
    split at h
    · cases h
    · exact s.ntb q ps h
  tabs := s.tabs
  len := s.len
  slots := fun i x o e1 e2 => by
    have h := s.slots i x o e1 e2
    have mono : ∀ q o, G q = some o → upd G p (.lst vs) q = some o := fun q o h => by
      rw [upd_ne (ne_of_none h gp)]; exact h
    cases x with
    | em => trivial
    | pu d =>
      obtain ⟨v, e, r⟩ := h
      exact ⟨v, e, r.mono mono⟩
    | ow ds =>
      obtain ⟨q, ws, e, n, hq, r⟩ := h
      subst e
      refine ⟨q, ws, rfl, ?_, hq, r.mono mono⟩
      rw [upd_ne (fun e => no ⟨i, ds, e1, by rw [← e]; exact e2⟩)]
      exact n
  inj := s.inj
  cup := s.cup
@[reducible, simp] def eL (f : Ev → Res (List D × Ev)) : Ev → Res (D × Ev) := fun ε => (f ε).bind fun p => .ok (.lst p.1, p.2)
theorem TrN.tr {t : TE} (h : TrN M W t g) : Tr M W (Rp M.F) t (eL g) := by
  intro σ G H ε s Q hp
  refine h σ G H ε s Q ?_
  simp only [eL] at hp
  cases e : g ε with
  | stuck => rw [e] at hp; exact hp
  | err c => rw [e] at hp; exact hp
  | ok p =>
    rw [e] at hp
    intro a vs G' H' s' st n ha r nh no
    have mono : ∀ q o, G' q = some o → upd G' a (.lst vs) q = some o := fun q o h => by
      rw [upd_ne (ne_of_none h n)]; exact h
    refine hp (.ref a) (upd G' a (.lst vs)) H' (s'.freeze n ha no) ⟨fun q o h => mono q o (st.gg q o h), st.hh, st.hs, fun q o h => ?_, st.oo⟩ (rp_lst.mpr ⟨a, vs, rfl, upd_same, r.mono mono⟩)
    unfold upd at h
    split at h
    · rename_i e; subst e; exact .inr (.inl nh)
    · exact st.gn q o h
theorem PN.pv (h : PN M W X e g) : PV M W X e (eL g) := by
  obtain ⟨t, et, q⟩ := h
  exact ⟨t, et, q.tr⟩

/-! ### displays -/
theorem pn_lst (h : PA' M W X es g) (hn : es.length ≤ 1000 := by decide) : PN M W X (.List es pos) g := by
  obtain ⟨⟨t, et, q⟩, hl⟩ := h
  refine ⟨_, pe_lst et, fun σ G H ε s Q hp => ?_⟩
  refine q σ G H ε s _ ?_
  cases e : g ε with
  | stuck => rw [e] at hp; exact hp
  | err c => rw [e] at hp; exact hp
  | ok p =>
    rw [e] at hp
    intro vs G' H' s' st r
    refine ⟨by rw [← r.length, hl _ _ e]; exact Nat.le_of_lt (small1000 hn), fun a na => ?_⟩
    obtain ⟨s2, st2, ga, no⟩ := s'.newH (o := .lst vs) na
    exact hp a vs G' _ s2 (st.trans s'.sub st2) ga upd_same r (st.hs a na) no
@[reducible, simp] def eTup (g : Ev → Res (List D × Ev)) : Ev → Res (D × Ev) := fun ε => (g ε).bind fun p => .ok (.tup p.1, p.2)
theorem pv_tup {x1} (h : PA' M W X es g) (hn : es.length ≤ 1000 := by decide) : PV M W X (.Tuple es x1 pos) (eTup g) := by
  obtain ⟨⟨t, et, q⟩, hl⟩ := h
  refine ⟨_, pe_tup et, fun σ G H ε s Q hp => ?_⟩
  refine q σ G H ε s _ ?_
  simp only [eTup] at hp
  cases e : g ε with
  | stuck => rw [e] at hp; exact hp
  | err c => rw [e] at hp; exact hp
  | ok p =>
    rw [e] at hp
    intro vs G' H' s' st r
    refine ⟨by rw [← r.length, hl _ _ e]; exact Nat.le_of_lt (small1000 hn), fun a na => ?_⟩
    obtain ⟨s2, st2⟩ := s'.new (o := .tup vs) na (fun ps z => by cases z)
    refine hp (.ref a) _ _ s2 (st.trans s'.sub st2) (rp_tup.mpr ⟨a, vs, rfl, .inl (.inl upd_same), r.mono st2.gg⟩)
end

/-! ### what is there now: a value, its list read from the heap -/
def RpH (F : Fx) (G H : Hp) : D → V → Prop
  | .lst ds, v => ∃ a vs, v = .ref a ∧ H a = some (.lst vs) ∧ RpL F G ds vs
  | d, v => Rp F G d v
theorem rpH_int {F : Fx} {G H : Hp} {i : Int} {v : V} : RpH F G H (.int i) v ↔ v = .int i := by simp only [RpH, Rp]
theorem rpH_bl {F : Fx} {G H : Hp} {i : Bool} {v : V} : RpH F G H (.bl i) v ↔ v = .bl i := by simp only [RpH, Rp]
theorem rpH_str {F : Fx} {G H : Hp} {i : Str} {v : V} : RpH F G H (.str i) v ↔ v = .str i := by simp only [RpH, Rp]
theorem rpH_non {F : Fx} {G H : Hp} {v : V} : RpH F G H .non v ↔ v = .non := by simp only [RpH, Rp]
theorem rpH_tup {F : Fx} {G H : Hp} {ds : List D} {v : V} : RpH F G H (.tup ds) v ↔ ∃ a vs, v = .ref a ∧ SqT F.K G a vs ∧ RpL F G ds vs := by simp only [RpH, Rp]
theorem Rp.rpH {F : Fx} {G H : Hp} (sub : ∀ q o, G q = some o → H q = some o) {d : D} {v : V} (r : Rp F G d v) : RpH F G H d v := by
  cases d with
  | lst ds =>
    rw [rp_lst] at r
    obtain ⟨a, vs, e, g, l⟩ := r
    exact ⟨a, vs, e, sub _ _ g, l⟩
  | _ => exact r
def OpH (M : Fr) (W : WX) (r : R2) (op : D → D → Res D) : Prop :=
  ∀ (x y : D) (v w : V) (σ : St) (G H : Hp) (ε : Ev), SR M G H σ ε → RpH M.F G H x v → RpH M.F G H y w → ∀ Q : VK,
    Post M W σ G H ε (Rp M.F) ((op x y).bind fun d => .ok (d, ε)) Q → r v w H Q
theorem OpH.opT {M : Fr} {W : WX} {r : R2} {op : D → D → Res D} (h : OpH M W r op) : OpT M W r op := fun x y v w σ G H ε s rx ry Q hp => h x y v w σ G H ε s (rx.rpH s.sub) (ry.rpH s.sub) Q hp
/-- a new list out of two values -/
def OpN (M : Fr) (W : WX) (r : R2) (op : D → D → Res (List D)) : Prop :=
  ∀ (x y : D) (v w : V) (σ : St) (G H : Hp) (ε : Ev), SR M G H σ ε → RpH M.F G H x v → RpH M.F G H y w → ∀ Q : VK,
    PostN M W σ G H ε ((op x y).bind fun d => .ok (d, ε)) Q → r v w H Q
@[reducible] def eOpN (op : D → D → Res (List D)) (fa fb : Ev → Res (D × Ev)) : Ev → Res (List D × Ev) := fun ε =>
  (fa ε).bind fun p => (fb p.2).bind fun q => (op p.1 q.1).bind fun d => .ok (d, q.2)
theorem trN_op {M : Fr} {W : WX} {r : R2} {op : D → D → Res (List D)} {ta tb : TE} {fa fb : Ev → Res (D × Ev)} (ho : OpN M W r op) (ha : Tr M W (Rp M.F) ta fa) (hb : Tr M W (Rp M.F) tb fb) : TrN M W (tOp r ta tb) (eOpN op fa fb) := by
  intro σ G H ε s Q hp
  refine ha σ G H ε s _ ?_
  simp only [eOpN] at hp
  cases e : fa ε with
  | stuck => rw [e] at hp; exact hp
  | err c => rw [e] at hp; exact hp
  | ok p =>
    rw [e] at hp
    intro v G1 H1 s1 st1 rx
    have hp1 : PostN M W σ G1 H1 p.2 ((fb p.2).bind fun q => (op p.1 q.1).bind fun d => .ok (d, q.2)) Q := PostN.shift s1 st1 hp
    refine hb σ G1 H1 p.2 s1 _ ?_
    cases e2 : fb p.2 with
    | stuck => rw [e2] at hp1; exact hp1
    | err c => rw [e2] at hp1; exact hp1
    | ok q =>
      rw [e2] at hp1
      intro w G2 H2 s2 st2 ry
      exact ho p.1 q.1 v w σ G2 H2 q.2 s2 ((rx.mono st2.gg).rpH s2.sub) (ry.rpH s2.sub) Q (hp1.shift s2 st2)

/-! ### subscripts -/
theorem RpL.atI {F : Fx} {G : Hp} {ds : List D} {vs : List V} (r : RpL F G ds vs) {i : Int} {d : D} (e : atI ds i = some d) : ∃ v, atI vs i = some v ∧ Rp F G d v := by
  unfold L2.atI at e ⊢
  rw [← r.length]
  cases q : ixN ds.length i with
  | none => rw [q] at e; cases e
  | some j =>
    rw [q] at e
    exact r.get e
@[simp] def dIx : D → D → Res D
  | .lst ds, .int i => match atI ds i with
    | some d => .ok d
    | none => .stuck
  | .tup ds, .int i => match atI ds i with
    | some d => .ok d
    | none => .stuck
  | .str z, .int i => if z.length ≤ 1000000 then (match atI z.cps.toList i with
    | some c => .ok (.str ⟨#[c]⟩)
    | none => .stuck) else .stuck
  | _, _ => .stuck
theorem line_big {n : Nat} (h : n ≤ 1000000) : n ≤ sizeLine := by rw [sizeLine_eq]; omega
theorem opH_ix {M : Fr} {W : WX} : OpH M W (rIx M.F.K) dIx := by
  intro x y v w σ G H ε s rx ry Q hp
  cases y with
  | int i =>
    have ry' := rpH_int.mp ry
    subst ry'
    cases x with
    | lst ds =>
      obtain ⟨a, vs, rfl, ha, l⟩ := rx
      simp only [dIx] at hp
      cases e : atI ds i with
      | none => rw [e] at hp; exact hp.elim
      | some d =>
        rw [e] at hp
        obtain ⟨u, e2, r⟩ := l.atI e
        exact .inl ⟨a, vs, i, u, rfl, rfl, SqL.of ha, e2, hp u G H s (Step.refl ..) r⟩
    | tup ds =>
      obtain ⟨a, vs, rfl, ha, l⟩ := rpH_tup.mp rx
      simp only [dIx] at hp
      cases e : atI ds i with
      | none => rw [e] at hp; exact hp.elim
      | some d =>
        rw [e] at hp
        obtain ⟨u, e2, r⟩ := l.atI e
        exact .inr (.inl ⟨a, vs, i, u, rfl, rfl, sqT_mono s.sub ha, e2, hp u G H s (Step.refl ..) r⟩)
    | str z =>
      have rx' := rpH_str.mp rx
      subst rx'
      simp only [dIx] at hp
      split at hp
      · rename_i hz
        cases e : atI z.cps.toList i with
        | none => rw [e] at hp; exact hp.elim
        | some c =>
          rw [e] at hp
          exact .inr (.inr ⟨z, i, c, rfl, rfl, line_big hz, e, hp _ G H s (Step.refl ..) (rp_str.mpr rfl)⟩)
      · exact hp.elim
    | _ => exact hp.elim
  | _ => cases x <;> exact hp.elim

section
variable {M : Fr} {W : WX} {X : Cx} {k : Nat} {a b e : Expr} {es rest : List Expr} {fa fb f : Ev → Res (D × Ev)} {g : Ev → Res (List D × Ev)} {pos : Pos}
theorem pv_ix (c : CO M W k X) (ha : PV M W X a fa) (hb : PV M W X b fb) (hs : PlainIx b := by intro _ _; rfl) : PV M W X (.Subscript a b pos) (eOp dIx fa fb) := by
  obtain ⟨ta, ea, qa⟩ := ha
  obtain ⟨tb, eb, qb⟩ := hb
  refine ⟨_, pe_ix (r := rIx M.F.K) (by rw [← c.hK]; exact ix_seq) ea eb hs, tr_op opH_ix.opT qa qb⟩

/-! ### a name whose list may be owned, read where it stands -/
@[reducible, simp] def getAny (ε : Ev) (i : Nat) : Res D := match ε[i]? with
  | some (.pu d) => .ok d
  | some (.ow ds) => .ok (.lst ds)
  | _ => .stuck
theorem SR.any {G H : Hp} {σ : St} {ε : Ev} (s : SR M G H σ ε) {i : Nat} {d : D} (e : getAny ε i = .ok d) : ∃ v, σ[i]? = some (some v) ∧ RpH M.F G H d v := by
  unfold getAny at e
  split at e
  · rename_i d' e'
    cases e
    obtain ⟨v, e2, r⟩ := s.pu e'
    exact ⟨v, e2, r.rpH s.sub⟩
  · rename_i ds e'
    cases e
    obtain ⟨p, vs, e2, _, hp, r⟩ := s.ow e'
    exact ⟨.ref p, e2, p, vs, rfl, hp, r⟩
  · cases e
@[reducible, simp] def eOpV (op : D → D → Res D) (i : Nat) (fb : Ev → Res (D × Ev)) : Ev → Res (D × Ev) := fun ε =>
  (getAny ε i).bind fun _ => (fb ε).bind fun q => (getAny q.2 i).bind fun x => (op x q.1).bind fun d => .ok (d, q.2)
theorem tr_opV {r : R2} {op : D → D → Res D} {i : Nat} {tb : TE} (ho : OpH M W r op) (hb : Tr M W (Rp M.F) tb fb) : Tr M W (Rp M.F) (tOp r (tVar i) tb) (eOpV op i fb) := by
  intro σ G H ε s Q hp
  simp only [eOpV] at hp
  cases e0 : getAny ε i with
  | stuck => rw [e0] at hp; exact hp.elim
  | err c => simp only [getAny] at e0; split at e0 <;> cases e0
  | ok x0 =>
    rw [e0] at hp
    obtain ⟨v, ev, _⟩ := s.any e0
    refine ⟨v, ev, hb σ G H ε s _ ?_⟩
    try simp only [Res.bind_ok] at hp
    cases e : fb ε with
    | stuck => rw [e] at hp; exact hp
    | err c => rw [e] at hp; exact hp
    | ok q =>
      rw [e] at hp
      intro w G1 H1 s1 st1 ry
      try simp only [Res.bind_ok] at hp
      cases e1 : getAny q.2 i with
      | stuck => rw [e1] at hp; exact hp.elim
      | err c => simp only [getAny] at e1; split at e1 <;> cases e1
      | ok x =>
        rw [e1] at hp
        obtain ⟨v', ev', rx⟩ := s1.any e1
        rw [ev] at ev'
        cases ev'
        exact ho x q.1 v w σ G1 H1 q.2 s1 rx (ry.rpH s1.sub) Q (hp.shift s1 st1)
theorem pv_ixV (c : CO M W k X) (i : Nat) {x : Str} {px : Pos} (hb : PV M W X b fb) (hs : PlainIx b := by intro _ _; rfl) (hN : X.N[i]? = some x := by rfl)
    (hv : Vis X.env.scope x := by first | exact Or.inl rfl | exact Or.inr (Or.inl rfl) | exact Or.inr (Or.inr rfl)) (hd : (x == ("__debug__" : Str)) = false := by decide) (hcd : (x == ("__classdict__" : Str)) = false := by decide) :
    PV M W X (.Subscript (.Name x px) b pos) (eOpV dIx i fb) := by
  obtain ⟨tb, eb, qb⟩ := hb
  refine ⟨_, pe_ix (r := rIx M.F.K) (by rw [← c.hK]; exact ix_seq) (pe_var hN hv hd hcd) eb hs, tr_opV opH_ix qb⟩
end

/-! ### == -/
mutual
def D.pyd : D → PyData
  | .non => .none
  | .bl b => .bool b
  | .int i => .int i
  | .str x => .str x
  | .tup ds => .tuple (D.pydL ds)
  | .lst ds => .list (D.pydL ds)
  | .fn _ => .none
  | .scr _ => .none
def D.pydL : List D → List PyData
  | [] => []
  | d :: ds => d.pyd :: D.pydL ds
end
mutual
/-- data without functions, texts of real signs, at most n deep -/
def D.okq : Nat → D → Bool
  | _, .non => true
  | _, .bl _ => true
  | _, .int _ => true
  | _, .str x => PyData.strOk x
  | 0, .tup _ => false
  | n + 1, .tup ds => D.okqL n ds
  | 0, .lst _ => false
  | n + 1, .lst ds => D.okqL n ds
  | _, .fn _ => false
  | _, .scr _ => false
def D.okqL : Nat → List D → Bool
  | _, [] => true
  | n, d :: ds => D.okq n d && D.okqL n ds
end
mutual
theorem okq_canLay : ∀ (d : D) (n : Nat), D.okq n d = true → d.pyd.canLay0 = true ∧ d.pyd.depth ≤ n
  | .non, n, _ => ⟨rfl, Nat.zero_le _⟩
  | .bl _, n, _ => ⟨rfl, Nat.zero_le _⟩
  | .int _, n, _ => ⟨rfl, Nat.zero_le _⟩
  | .str x, n, h => ⟨by simpa [D.pyd, PyData.canLay0, D.okq] using h, by simp [D.pyd, PyData.depth]⟩
  | .tup ds, 0, h => by simp [D.okq] at h
  | .tup ds, n + 1, h => by
    have q := okqL_canLay ds n (by simpa [D.okq] using h)
    exact ⟨by simpa [D.pyd, PyData.canLay0] using q.1, by simpa [D.pyd, PyData.depth] using q.2⟩
  | .lst ds, 0, h => by simp [D.okq] at h
  | .lst ds, n + 1, h => by
    have q := okqL_canLay ds n (by simpa [D.okq] using h)
    exact ⟨by simpa [D.pyd, PyData.canLay0] using q.1, by simpa [D.pyd, PyData.depth] using q.2⟩
  | .fn _, _, h => by simp [D.okq] at h
  | .scr _, _, h => by simp [D.okq] at h
theorem okqL_canLay : ∀ (ds : List D) (n : Nat), D.okqL n ds = true → PyData.canLayAll0 (D.pydL ds) = true ∧ PyData.depthAll (D.pydL ds) ≤ n
  | [], n, _ => ⟨rfl, Nat.zero_le _⟩
  | d :: ds, n, h => by
    have h' : D.okq n d = true ∧ D.okqL n ds = true := by simpa [D.okqL] using h
    have q1 := okq_canLay d n h'.1
    have q2 := okqL_canLay ds n h'.2
    refine ⟨by simp [D.pydL, PyData.canLayAll0, q1.1, q2.1], ?_⟩
    simp only [D.pydL, PyData.depthAll]
    exact Nat.max_le.mpr ⟨q1.2, q2.2⟩
end
theorem okq_shaped {d : D} {n : Nat} (h : D.okq n d = true) (hn : n ≤ 64) : SeqAt.shaped d.pyd = true := by
  obtain ⟨a, b⟩ := okq_canLay d n h
  unfold SeqAt.shaped
  rw [a, decide_eq_true (Nat.le_trans b hn)]; rfl
mutual
theorem rp_dp {F : Fx} {G H : Hp} (sub : ∀ q o, G q = some o → H q = some o) : ∀ (d : D) (n : Nat) (v : V), D.okq n d = true → Rp F G d v → Dp F.K H v d.pyd
  | .non, _, v, _, r => by rw [rp_non] at r; subst r; exact .non
  | .bl b, _, v, _, r => by rw [rp_bl] at r; subst r; exact .bl b
  | .int i, _, v, _, r => by rw [rp_int] at r; subst r; exact .int i
  | .str x, _, v, _, r => by rw [rp_str] at r; subst r; exact .str x
  | .tup ds, 0, v, h, _ => by simp [D.okq] at h
  | .tup ds, n + 1, v, h, r => by
    obtain ⟨a, vs, rfl, s, l⟩ := rp_tup.mp r
    simp only [D.pyd]
    exact .tup (sqT_mono sub s) (rpL_dp sub ds n vs (by simpa [D.okq] using h) l)
  | .lst ds, 0, v, h, _ => by simp [D.okq] at h
  | .lst ds, n + 1, v, h, r => by
    obtain ⟨a, vs, rfl, s, l⟩ := rp_lst.mp r
    simp only [D.pyd]
    exact .lst (SqL.of (sub _ _ s)) (rpL_dp sub ds n vs (by simpa [D.okq] using h) l)
  | .fn _, _, v, h, _ => by simp [D.okq] at h
  | .scr _, _, v, h, _ => by simp [D.okq] at h
theorem rpL_dp {F : Fx} {G H : Hp} (sub : ∀ q o, G q = some o → H q = some o) : ∀ (ds : List D) (n : Nat) (vs : List V), D.okqL n ds = true → RpL F G ds vs → DpAll F.K H vs (D.pydL ds)
  | [], _, vs, _, r => by rw [r.of_nil]; exact .nil
  | d :: ds, n, vs, h, r => by
    obtain ⟨v, ws, rfl, a, l⟩ := r.of_cons
    have h' : D.okq n d = true ∧ D.okqL n ds = true := by simpa [D.okqL] using h
    simp only [D.pydL]
    exact .cons (rp_dp sub d n v h'.1 a) (rpL_dp sub ds n ws h'.2 l)
end
theorem rpH_dp {F : Fx} {G H : Hp} (sub : ∀ q o, G q = some o → H q = some o) {d : D} {n : Nat} {v : V} (h : D.okq n d = true) (r : RpH F G H d v) : Dp F.K H v d.pyd := by
  cases d with
  | lst ds =>
    obtain ⟨a, vs, rfl, s, l⟩ := r
    cases n with
    | zero => simp [D.okq] at h
    | succ n =>
      simp only [D.pyd]
      exact .lst (SqL.of s) (rpL_dp sub ds n vs (by simpa [D.okq] using h) l)
  | _ => exact rp_dp sub _ n v h r
def dEqv (x y : D) : Bool := PyData.eqv x.pyd y.pyd
def dEq (x y : D) : Res D := if (D.okq 20 x && D.okq 20 y) = true then .ok (.bl (dEqv x y)) else .stuck
def dNe (x y : D) : Res D := if (D.okq 20 x && D.okq 20 y) = true then .ok (.bl (!dEqv x y)) else .stuck
theorem opH_eq {M : Fr} {W : WX} : OpH M W (rEqD M.F.K) dEq := by
  intro x y v w σ G H ε s rx ry Q hp
  simp only [dEq] at hp
  split at hp
  · rename_i h
    have h' := Bool.and_eq_true_iff.mp h
    exact ⟨_, _, rpH_dp s.sub h'.1 rx, rpH_dp s.sub h'.2 ry, okq_shaped h'.1 (by decide), okq_shaped h'.2 (by decide), hp _ G H s (Step.refl ..) (rp_bl.mpr rfl)⟩
  · exact hp.elim
theorem opH_ne {M : Fr} {W : WX} : OpH M W (rNeD M.F.K) dNe := by
  intro x y v w σ G H ε s rx ry Q hp
  simp only [dNe] at hp
  split at hp
  · rename_i h
    have h' := Bool.and_eq_true_iff.mp h
    exact ⟨_, _, rpH_dp s.sub h'.1 rx, rpH_dp s.sub h'.2 ry, okq_shaped h'.1 (by decide), okq_shaped h'.2 (by decide), hp _ G H s (Step.refl ..) (rp_bl.mpr rfl)⟩
  · exact hp.elim
def dIsN : D → D → Res D
  | .non, .non => .ok (.bl true)
  | _, .non => .ok (.bl false)
  | _, _ => .stuck
def dNotN : D → D → Res D
  | .non, .non => .ok (.bl false)
  | _, .non => .ok (.bl true)
  | _, _ => .stuck
theorem rpH_non_iff {F : Fx} {G H : Hp} {d : D} {v : V} (r : RpH F G H d v) : v = .non ↔ d = .non := by
  cases d with
  | non => exact ⟨fun _ => rfl, fun _ => rpH_non.mp r⟩
  | bl b => have := rpH_bl.mp r; subst this; exact ⟨(fun e => by cases e), (fun e => by cases e)⟩
  | int b => have := rpH_int.mp r; subst this; exact ⟨(fun e => by cases e), (fun e => by cases e)⟩
  | str b => have := rpH_str.mp r; subst this; exact ⟨(fun e => by cases e), (fun e => by cases e)⟩
  | tup ds => obtain ⟨a, vs, rfl, _⟩ := rpH_tup.mp r; exact ⟨(fun e => by cases e), (fun e => by cases e)⟩
  | lst ds => obtain ⟨a, vs, rfl, _⟩ := r; exact ⟨(fun e => by cases e), (fun e => by cases e)⟩
  | scr ns => obtain ⟨a, rfl, _⟩ : ∃ a, v = .ref a ∧ SqL F.K G a (ns.map V.int) := (by simpa only [RpH, Rp] using r); exact ⟨(fun e => by cases e), (fun e => by cases e)⟩
  | fn k => have : v = .ref (F.fa k) := (by simpa only [RpH, Rp] using r); subst this; exact ⟨(fun e => by cases e), (fun e => by cases e)⟩
theorem opH_isN {M : Fr} {W : WX} : OpH M W (fun x y H Q => y = .non ∧ Q (.bl (decide (x = .non))) H) dIsN := by
  intro x y v w σ G H ε s rx ry Q hp
  cases y with
  | non =>
    refine ⟨rpH_non.mp ry, ?_⟩
    have e := rpH_non_iff rx
    by_cases h : x = .non
    · subst h
      rw [decide_eq_true (e.mpr rfl)]
      exact hp _ G H s (Step.refl ..) (rp_bl.mpr rfl)
    · rw [decide_eq_false fun z => h (e.mp z)]
      cases x <;> first | exact absurd rfl h | exact hp _ G H s (Step.refl ..) (rp_bl.mpr rfl)
  | _ => cases x <;> exact hp.elim
theorem opH_notN {M : Fr} {W : WX} : OpH M W (fun x y H Q => y = .non ∧ Q (.bl (!decide (x = .non))) H) dNotN := by
  intro x y v w σ G H ε s rx ry Q hp
  cases y with
  | non =>
    refine ⟨rpH_non.mp ry, ?_⟩
    have e := rpH_non_iff rx
    by_cases h : x = .non
    · subst h
      rw [decide_eq_true (e.mpr rfl)]
      exact hp _ G H s (Step.refl ..) (rp_bl.mpr rfl)
    · rw [decide_eq_false fun z => h (e.mp z)]
      cases x <;> first | exact absurd rfl h | exact hp _ G H s (Step.refl ..) (rp_bl.mpr rfl)
  | _ => cases x <;> exact hp.elim
section
variable {M : Fr} {W : WX} {X : Cx} {k : Nat} {a b e : Expr} {es rest : List Expr} {fa fb f : Ev → Res (D × Ev)} {g : Ev → Res (List D × Ev)} {pos : Pos}
theorem cm_eq (c : CO M W k X) : CmpR M W X .Eq dEq := ⟨_, by rw [← c.hK]; exact op_eqD c.hr.units, opH_eq.opT⟩
theorem cm_ne (c : CO M W k X) : CmpR M W X .NotEq dNe := ⟨_, by rw [← c.hK]; exact op_neD c.hr.units, opH_ne.opT⟩
theorem cm_isN : CmpR M W X .Is dIsN := ⟨_, op_isN, opH_isN.opT⟩
theorem cm_notN : CmpR M W X .IsNot dNotN := ⟨_, op_notN, opH_notN.opT⟩
/-- x == e, x != e, x a name whose list may be owned -/
theorem pb_eqV (c : CO M W k X) (i : Nat) {x : Str} {px : Pos} (hb : PV M W X b fb) (hN : X.N[i]? = some x := by rfl)
    (hv : Vis X.env.scope x := by first | exact Or.inl rfl | exact Or.inr (Or.inl rfl) | exact Or.inr (Or.inr rfl)) (hd : (x == ("__debug__" : Str)) = false := by decide) (hcd : (x == ("__classdict__" : Str)) = false := by decide) :
    PB M W X (.Compare (.Name x px) [.Eq] [b] pos) (bOf (eOpV dEq i fb)) := by
  obtain ⟨tb, eb, qb⟩ := hb
  refine ⟨_, pt_cmpR (r := rEqD M.F.K) (by rw [← c.hK]; exact op_eqD c.hr.units) (pe_var hN hv hd hcd) eb (nomark _), tr_test (tr_opV opH_eq qb)⟩
theorem pb_neV (c : CO M W k X) (i : Nat) {x : Str} {px : Pos} (hb : PV M W X b fb) (hN : X.N[i]? = some x := by rfl)
    (hv : Vis X.env.scope x := by first | exact Or.inl rfl | exact Or.inr (Or.inl rfl) | exact Or.inr (Or.inr rfl)) (hd : (x == ("__debug__" : Str)) = false := by decide) (hcd : (x == ("__classdict__" : Str)) = false := by decide) :
    PB M W X (.Compare (.Name x px) [.NotEq] [b] pos) (bOf (eOpV dNe i fb)) := by
  obtain ⟨tb, eb, qb⟩ := hb
  refine ⟨_, pt_cmpR (r := rNeD M.F.K) (by rw [← c.hK]; exact op_neD c.hr.units) (pe_var hN hv hd hcd) eb (nomark _), tr_test (tr_opV opH_ne qb)⟩
end
end PL
/-! PL, part d: + and *, slices, calls of built-ins. -/
namespace PL
open PySem PySem.Spec PyProof.Rows L2

theorem post_ok {α β : Type} {M : Fr} {W : WX} {σ : St} {G H : Hp} {ε : Ev} {R : Hp → β → α → Prop} {b : β} {Q : α → Hp → Prop} (hp : Post M W σ G H ε R (.ok (b, ε)) Q) (s : SR M G H σ ε) {a : α} (r : R G b a) : Q a H :=
  hp a G H s (Step.refl ..) r
/-- the answer is a new object -/
theorem post_new {M : Fr} {W : WX} {σ : St} {G H : Hp} {ε : Ev} {d : D} {Q : VK} (hp : Post M W σ G H ε (Rp M.F) (.ok (d, ε)) Q) (s : SR M G H σ ε) {p : Addr} {o : HO} (hn : H p = none) (ho : ∀ ps, o ≠ .tbl ps)
    (r : Rp M.F (upd G p o) d (.ref p)) : Q (.ref p) (upd H p o) := by
  obtain ⟨s2, st2⟩ := s.new (o := o) hn ho
  exact hp _ _ _ s2 st2 r
theorem postN_new {M : Fr} {W : WX} {σ : St} {G H : Hp} {ε : Ev} {ds : List D} {vs : List V} {Q : VK} (hp : PostN M W σ G H ε (.ok (ds, ε)) Q) (s : SR M G H σ ε) {p : Addr} (hn : H p = none) (r : RpL M.F G ds vs) : Q (.ref p) (upd H p (.lst vs)) := by
  obtain ⟨s2, st2, ga, no⟩ := s.newH (o := .lst vs) hn
  exact hp p vs G _ s2 st2 ga upd_same r hn no
theorem up_mono {G : Hp} {p : Addr} {o : HO} (hn : G p = none) : ∀ q u, G q = some u → upd G p o q = some u := fun q u h => by rw [upd_ne (ne_of_none h hn)]; exact h
theorem SR.gnone {M : Fr} {G H : Hp} {σ : St} {ε : Ev} (s : SR M G H σ ε) {p : Addr} (hn : H p = none) : G p = none := by
  cases q : G p with
  | none => rfl
  | some u => rw [s.sub p u q] at hn; cases hn

/-! ### + -/
def dCat : D → D → Res (List D)
  | .lst a, .lst b => if a.length + b.length ≤ 1000000 then .ok (a ++ b) else .stuck
  | _, _ => .stuck
@[simp] def dAdd : D → D → Res D
  | .int i, .int j => .ok (.int (i + j))
  | .str x, .str y => if x.length + y.length ≤ 1000000 then .ok (.str (x ++ y)) else .stuck
  | .tup a, .tup b => if a.length + b.length ≤ 1000000 then .ok (.tup (a ++ b)) else .stuck
  | .lst a, .lst b => (dCat (.lst a) (.lst b)).bind fun c => .ok (.lst c)
  | _, _ => .stuck
def rAddAll (K : PySem.W.Frag) : R2 := fun x y H Q => (∃ i j, x = .int i ∧ y = .int j ∧ Q (.int (i + j)) H) ∨ (∃ i j, x = .str i ∧ y = .str j ∧ i.length + j.length ≤ sizeLine ∧ Q (.str (i ++ j)) H) ∨ rCatA K x y H Q ∨ rCat x y H Q
theorem op_addAll {X : Cx} : OpR X (binaryOp .Add) (rAddAll X.K) := (op_add).or ((op_add_str).or ((op_catA).or op_cat))
theorem opN_cat {M : Fr} {W : WX} : OpN M W (rAddAll M.F.K) dCat := by
  intro x y v w σ G H ε s rx ry Q hp
  cases x with
  | lst a =>
    cases y with
    | lst b =>
      obtain ⟨p, vs, rfl, hv, lv⟩ := rx
      obtain ⟨q, ws, rfl, hw, lw⟩ := ry
      simp only [dCat] at hp
      split at hp
      · rename_i hl
        refine .inr (.inr (.inr ⟨p, q, vs, ws, rfl, rfl, hv, hw, by rw [← lv.length, ← lw.length]; exact line_big hl, fun r hr => postN_new hp s hr (lv.append lw)⟩))
      · exact hp.elim
    | _ => exact hp.elim
  | _ => exact hp.elim
theorem opH_add {M : Fr} {W : WX} : OpH M W (rAddAll M.F.K) dAdd := by
  intro x y v w σ G H ε s rx ry Q hp
  cases x with
  | int i =>
    cases y with
    | int j =>
      rw [rpH_int] at rx ry
      subst rx ry
      exact .inl ⟨i, j, rfl, rfl, post_ok hp s (rp_int.mpr rfl)⟩
    | _ => exact hp.elim
  | str i =>
    cases y with
    | str j =>
      rw [rpH_str] at rx ry
      subst rx ry
      simp only [dAdd] at hp
      split at hp
      · rename_i hl
        exact .inr (.inl ⟨i, j, rfl, rfl, line_big hl, post_ok hp s (rp_str.mpr rfl)⟩)
      · exact hp.elim
    | _ => exact hp.elim
  | tup a =>
    cases y with
    | tup b =>
      obtain ⟨p, vs, rfl, hv, lv⟩ := rpH_tup.mp rx
      obtain ⟨q, ws, rfl, hw, lw⟩ := rpH_tup.mp ry
      simp only [dAdd] at hp
      split at hp
      · rename_i hl
        have nilOf : ∀ {ds : List D} {us : List V}, RpL M.F G ds us → us = [] → ds = [] := fun {ds us} l e => by
          have := l.length
          rw [e] at this
          exact List.eq_nil_of_length_eq_zero this
        refine .inr (.inr (.inl ⟨p, q, vs, ws, rfl, rfl, sqT_mono s.sub hv, sqT_mono s.sub hw, ?_, fun e => ?_, fun _ e => ?_, fun _ _ r hr => ?_⟩))
        · rw [← lv.length, ← lw.length]; exact line_big hl
        · have ea := nilOf lv e
          subst ea
          exact post_ok hp s (rp_tup.mpr ⟨q, ws, rfl, hw, lw⟩)
        · have eb := nilOf lw e
          subst eb
          rw [List.append_nil] at hp
          exact post_ok hp s (rp_tup.mpr ⟨p, vs, rfl, hv, lv⟩)
        · refine post_new hp s hr (fun ps z => by cases z) (rp_tup.mpr ⟨r, _, rfl, .inl (.inl upd_same), ?_⟩)
          exact (lv.append lw).mono (up_mono (s.gnone hr))
      · exact hp.elim
    | _ => exact hp.elim
  | lst a =>
    cases y with
    | lst b =>
      refine opN_cat (W := W) _ _ v w σ G H ε s rx ry Q ?_
      simp only [dAdd] at hp
      cases e : dCat (.lst a) (.lst b) with
      | stuck => rw [e] at hp; exact hp
      | err c => rw [e] at hp; exact hp
      | ok c =>
        rw [e] at hp
        intro p vs G' H' s' st n hv r nh no
        have mono := up_mono (o := .lst vs) n
        refine hp (.ref p) (upd G' p (.lst vs)) H' (s'.freeze n hv no) ⟨fun q o h => mono q o (st.gg q o h), st.hh, st.hs, fun q o h => ?_, st.oo⟩ (rp_lst.mpr ⟨p, vs, rfl, upd_same, r.mono mono⟩)
        unfold upd at h
        split at h
        · rename_i e; subst e; exact .inr (.inl nh)
        · exact st.gn q o h
    | _ => exact hp.elim
  | _ => cases y <;> exact hp.elim

/-! ### * -/
section
variable {prog : Program} {w : World} {A : Around} {E : Value → Shared → Prop} {s : Shared}
theorem tup_mul_same (l : Addr) (items : Array Value) (n : Nat) (dd : Option Addr) (sl : Array (Option Value)) (x : Int) (u : Tok) (c0 : (decide (x < -(2 ^ 63)) || decide (x ≥ 2 ^ 63)) = false) (c1 : (items.isEmpty || x == 1) = true) :
    Meets (Builtin.«tuple.__mul__» ⟨[.ref l, .int x u], []⟩) (fun _ R s => s.heap.get? l = some { cls := .type "tuple", dict := dd, data := .seq items n, slots := sl } ∧ R (.ok (.ret (Value.ref l))) s) :=
  .of_wp fun prog w A R s h => by
    obtain ⟨hp, g, d, tk, os⟩ := s; obtain ⟨hl, h⟩ := h; have f1 := AutoSeq1.idx_int; wp_walk using wpAny_loadPart' hl
    repeat (first
      | (refine wpAny_ite_false (decide_eq_false (by rw [c0]; exact Bool.false_ne_true)) ?_; wp_walk using wpAny_loadPart' hl)
      | (refine wpAny_ite_true (decide_eq_true c1) ?_; wp_walk using wpAny_loadPart' hl))
    exact ⟨_, rfl, h⟩
theorem tup_mul_none (l : Addr) (items : Array Value) (n : Nat) (dd : Option Addr) (sl : Array (Option Value)) (x : Int) (u : Tok) (c0 : (decide (x < -(2 ^ 63)) || decide (x ≥ 2 ^ 63)) = false) (c1 : (items.isEmpty || x == 1) = false) (c2 : (decide (x ≤ 0) || items.isEmpty) = true) :
    Meets (Builtin.«tuple.__mul__» ⟨[.ref l, .int x u], []⟩) (fun _ R s => s.heap.get? l = some { cls := .type "tuple", dict := dd, data := .seq items n, slots := sl } ∧
      R (.ok (.ret (Value.ref s.heap.objs.size))) { s with heap := s.heap.push { cls := Value.type "tuple", data := Data.seq #[] }, toks := s.toks }) :=
  .of_wp fun prog w A R s h => by
    obtain ⟨hp, g, d, tk, os⟩ := s; obtain ⟨hl, h⟩ := h; have f1 := AutoSeq1.idx_int; wp_walk using wpAny_loadPart' hl
    repeat (first
      | (refine wpAny_ite_false (decide_eq_false (by rw [c0]; exact Bool.false_ne_true)) ?_; wp_walk using wpAny_loadPart' hl)
      | (refine wpAny_ite_false (decide_eq_false (by rw [c1]; exact Bool.false_ne_true)) ?_; wp_walk using wpAny_loadPart' hl)
      | (refine wpAny_ite_true (decide_eq_true c2) ?_; wp_walk using wpAny_loadPart' hl))
    exact ⟨_, rfl, h⟩
end
/-- t * k: t itself, or an empty new tuple -/
def rRep01 (K : PySem.W.Frag) : R2 := fun x y H Q => ∃ l k xs, x = .ref l ∧ y = .int k ∧ SqT K H l xs ∧ -1000 ≤ k ∧ k ≤ 1000 ∧ ((xs = [] ∨ k = 1) ∧ Q (.ref l) H ∨ (xs ≠ [] ∧ k ≤ 0) ∧ ∀ p, H p = none → Q (.ref p) (upd H p (.tup [])))
theorem op_rep01 {X : Cx} : OpR X (binaryOp .Mult) (rRep01 X.K) := by
  intro pins s σ H x y v u Q I rx ry h
  obtain ⟨l, k, xs, rfl, rfl, hT, h1, h2, h3⟩ := h
  cases rx
  obtain ⟨t, rfl⟩ := ry
  obtain ⟨its, r, ⟨⟨cls, dd, data, sl⟩, ho, hc, n, hd⟩, hs⟩ := I.tuple hT
  simp only at hc hd
  subst hc hd
  have c0 : (decide (k < -(2 ^ 63)) || decide (k ≥ 2 ^ 63)) = false := by rw [decide_eq_false (by omega), decide_eq_false (by omega)] <;> rfl
  have he : its = [] ↔ xs = [] := r.nil_iff
  rcases h3 with ⟨h3, q⟩ | ⟨⟨h3, h4⟩, q⟩
  · have c1 : (its.toArray.isEmpty || k == 1) = true := by
      rcases h3 with z | z
      · rw [he.mpr z]; rfl
      · rw [z]; simp
    exact wpAny_binaryOp_repeat_ref (T := "tuple") (U := "int") (by decide) ⟨_, ho, rfl⟩ (fun s' => typeIs_int s' k t) noFill_tuple_mul F.fills_int_mul F.slot_int_rmul repeat_tuple F.slot_int_index.lookup (call_meets F.slot_int_rmul (typeIs_int s k t) F.entry_int_rmul (F.args_int_rmul_2 _ _) (int_rmul_tuple k t l its.toArray n dd sl)
      ⟨ho, rfl, ⟨_, ho, rfl⟩, call_meets F.slot_tuple_mul ⟨_, ho, rfl⟩ F.entry_tuple_mul (F.args_tuple_mul_2 _ _) (tup_mul_same l its.toArray n dd sl k t c0 c1) ⟨ho, ⟨.ref l, H, I, rfl, q⟩⟩⟩)
  · have hn : its.toArray.isEmpty = false := by
      cases its with
      | nil => exact absurd (he.mp rfl) h3
      | cons a b => rfl
    have c1 : (its.toArray.isEmpty || k == 1) = false := by rw [hn, Bool.false_or]; exact beq_eq_false_iff_ne.mpr (by omega)
    have c2 : (decide (k ≤ 0) || its.toArray.isEmpty) = true := by rw [decide_eq_true h4]; rfl
    refine wpAny_binaryOp_repeat_ref (T := "tuple") (U := "int") (by decide) ⟨_, ho, rfl⟩ (fun s' => typeIs_int s' k t) noFill_tuple_mul F.fills_int_mul F.slot_int_rmul repeat_tuple F.slot_int_index.lookup (call_meets F.slot_int_rmul (typeIs_int s k t) F.entry_int_rmul (F.args_int_rmul_2 _ _) (int_rmul_tuple k t l its.toArray n dd sl)
      ⟨ho, rfl, ⟨_, ho, rfl⟩, call_meets F.slot_tuple_mul ⟨_, ho, rfl⟩ F.entry_tuple_mul (F.args_tuple_mul_2 _ _) (tup_mul_none l its.toArray n dd sl k t c0 c1 c2) ⟨ho, ?_⟩⟩)
    refine ⟨.ref s.heap.objs.size, _, I.laid (t' := s.toks) (o := .tup []) (fun b ob q => Heap.get?_push_of_some _ q) (Nat.le_refl _) ⟨Nat.zero_le _, [], .nil, IsTup.new _ _⟩, rfl, q _ (I.hok.fresh (Nat.le_refl _))⟩
def dRep : D → D → Res (List D)
  | .lst a, .int k => if k ≤ 1000 ∧ -1000 ≤ k ∧ a.length ≤ 1000 then .ok ((List.replicate k.toNat a).flatten) else .stuck
  | _, _ => .stuck
def dMul : D → D → Res D
  | .int i, .int j => if mulOk i j then .ok (.int (i * j)) else .stuck
  | .tup a, .int k => if k ≤ 1000 ∧ -1000 ≤ k ∧ a.length ≤ 1000 then .ok (.tup ((List.replicate k.toNat a).flatten)) else .stuck
  | .lst a, .int k => (dRep (.lst a) (.int k)).bind fun c => .ok (.lst c)
  | _, _ => .stuck
def rMulAll (K : PySem.W.Frag) : R2 := fun x y H Q => rI (fun i j => mulOk i j = true) (fun i j => .int (i * j)) x y H Q ∨ rRepT K x y H Q ∨ rRep x y H Q ∨ rRep01 K x y H Q
theorem mulOk_ok {i j : Int} (h : mulOk i j = true) : IntMulOk i j := by
  have b : ∀ x : Int, Builtin.Int.intBits x ≤ x.natAbs.log2 + 1 := fun x => by
    unfold Builtin.Int.intBits
    split <;> omega
  have h1 := b i
  have h2 := b j
  simp only [mulOk, Bool.or_eq_true, decide_eq_true_eq] at h
  rcases h with (h | h) | h
  · have el : bitsLine = 134217728 := by decide
    unfold IntMulOk
    intro z
    rw [Bool.and_eq_true] at z
    have z2 := z.2
    unfold Builtin.Int.intTooBig at z2
    have z3 := of_decide_eq_true z2
    rw [el] at z3
    omega
  · exact IntMulOk.of_left (by omega)
  · exact IntMulOk.of_right (by omega)
theorem op_mulX {X : Cx} : OpR X (binaryOp .Mult) (rI (fun i j => mulOk i j = true) fun i j => .int (i * j)) := opI fun _ _ _ _ _ _ _ hc q => mul_int q (mulOk_ok hc)
theorem op_mulAll {X : Cx} : OpR X (binaryOp .Mult) (rMulAll X.K) := (op_mulX).or ((op_repT).or (op_rep.or op_rep01))
theorem opN_rep {M : Fr} {W : WX} : OpN M W (rMulAll M.F.K) dRep := by
  intro x y v w σ G H ε s rx ry Q hp
  cases x with
  | lst a =>
    cases y with
    | int k =>
      obtain ⟨p, vs, rfl, hv, lv⟩ := rx
      rw [rpH_int] at ry
      subst ry
      simp only [dRep] at hp
      split at hp
      · rename_i hl
        refine .inr (.inr (.inl ⟨p, k, vs, rfl, rfl, hv, by omega, by omega, ?_, fun r hr => postN_new hp s hr (lv.rep _)⟩))
        rw [← lv.length]
        refine line_big ?_
        have : a.length * k.toNat ≤ 1000 * 1000 := Nat.mul_le_mul hl.2.2 (by omega)
        omega
      · exact hp.elim
    | _ => exact hp.elim
  | _ => exact hp.elim
theorem opH_mul {M : Fr} {W : WX} : OpH M W (rMulAll M.F.K) dMul := by
  intro x y v w σ G H ε s rx ry Q hp
  cases x with
  | int i =>
    cases y with
    | int j =>
      rw [rpH_int] at rx ry
      subst rx ry
      simp only [dMul] at hp
      split at hp
      · rename_i hl
        exact .inl ⟨i, j, rfl, rfl, hl, post_ok hp s (rp_int.mpr rfl)⟩
      · exact hp.elim
    | _ => exact hp.elim
  | tup a =>
    cases y with
    | int k =>
      obtain ⟨p, vs, rfl, hv, lv⟩ := rpH_tup.mp rx
      rw [rpH_int] at ry
      subst ry
      simp only [dMul] at hp
      split at hp
      · rename_i hl
        by_cases hv0 : vs = []
        · have ea : a = [] := by
            have := lv.length
            rw [hv0] at this
            exact List.eq_nil_of_length_eq_zero this
          subst ea
          refine .inr (.inr (.inr ⟨p, k, vs, rfl, rfl, sqT_mono s.sub hv, by omega, by omega, .inl ⟨.inl hv0, ?_⟩⟩))
          have e0 : (List.replicate k.toNat ([] : List D)).flatten = [] := by simp
          rw [e0] at hp
          exact post_ok hp s (rp_tup.mpr ⟨p, vs, rfl, hv, lv⟩)
        · by_cases hk1 : k = 1
          · subst hk1
            refine .inr (.inr (.inr ⟨p, 1, vs, rfl, rfl, sqT_mono s.sub hv, by omega, by omega, .inl ⟨.inr rfl, ?_⟩⟩))
            have e0 : (List.replicate (1 : Int).toNat a).flatten = a := by simp
            rw [e0] at hp
            exact post_ok hp s (rp_tup.mpr ⟨p, vs, rfl, hv, lv⟩)
          · by_cases hk0 : k ≤ 0
            · refine .inr (.inr (.inr ⟨p, k, vs, rfl, rfl, sqT_mono s.sub hv, by omega, by omega, .inr ⟨⟨hv0, hk0⟩, fun r hr => ?_⟩⟩))
              have e0 : (List.replicate k.toNat a).flatten = [] := by rw [show k.toNat = 0 by omega]; rfl
              rw [e0] at hp
              exact post_new hp s hr (fun ps z => by cases z) (rp_tup.mpr ⟨r, _, rfl, .inl (.inl upd_same), RpL.nil⟩)
            · refine .inr (.inl ⟨p, k, vs, rfl, rfl, sqT_mono s.sub hv, hv0, by omega, by omega, by rw [← lv.length]; omega, fun r hr => ?_⟩)
              refine post_new hp s hr (fun ps z => by cases z) (rp_tup.mpr ⟨r, _, rfl, .inl (.inl upd_same), ?_⟩)
              exact (lv.rep _).mono (up_mono (s.gnone hr))
      · exact hp.elim
    | _ => exact hp.elim
  | lst a =>
    cases y with
    | int k =>
      refine opN_rep (W := W) _ _ v w σ G H ε s rx ry Q ?_
      simp only [dMul] at hp
      cases e : dRep (.lst a) (.int k) with
      | stuck => rw [e] at hp; exact hp
      | err c => rw [e] at hp; exact hp
      | ok c =>
        rw [e] at hp
        intro p vs G' H' s' st n hv r nh no
        have mono := up_mono (o := .lst vs) n
        refine hp (.ref p) (upd G' p (.lst vs)) H' (s'.freeze n hv no) ⟨fun q o h => mono q o (st.gg q o h), st.hh, st.hs, fun q o h => ?_, st.oo⟩ (rp_lst.mpr ⟨p, vs, rfl, upd_same, r.mono mono⟩)
        unfold upd at h
        split at h
        · rename_i e; subst e; exact .inr (.inl nh)
        · exact st.gn q o h
    | _ => exact hp.elim
  | _ => cases y <;> exact hp.elim

section
variable {M : Fr} {W : WX} {X : Cx} {k : Nat} {a b e : Expr} {es rest : List Expr} {fa fb f : Ev → Res (D × Ev)} {g : Ev → Res (List D × Ev)} {pos : Pos}
theorem pv_add (c : CO M W k X) (ha : PV M W X a fa) (hb : PV M W X b fb) : PV M W X (.BinOp a .Add b pos) (eOp dAdd fa fb) := by
  obtain ⟨ta, ea, qa⟩ := ha
  obtain ⟨tb, eb, qb⟩ := hb
  exact ⟨_, pe_op (r := rAddAll M.F.K) (by rw [← c.hK]; exact op_addAll) ea eb, tr_op opH_add.opT qa qb⟩
theorem pn_add (c : CO M W k X) (ha : PV M W X a fa) (hb : PV M W X b fb) : PN M W X (.BinOp a .Add b pos) (eOpN dCat fa fb) := by
  obtain ⟨ta, ea, qa⟩ := ha
  obtain ⟨tb, eb, qb⟩ := hb
  exact ⟨_, pe_op (r := rAddAll M.F.K) (by rw [← c.hK]; exact op_addAll) ea eb, trN_op opN_cat qa qb⟩
theorem pv_mul (c : CO M W k X) (ha : PV M W X a fa) (hb : PV M W X b fb) : PV M W X (.BinOp a .Mult b pos) (eOp dMul fa fb) := by
  obtain ⟨ta, ea, qa⟩ := ha
  obtain ⟨tb, eb, qb⟩ := hb
  exact ⟨_, pe_op (r := rMulAll M.F.K) (by rw [← c.hK]; exact op_mulAll) ea eb, tr_op opH_mul.opT qa qb⟩
theorem pn_mul (c : CO M W k X) (ha : PV M W X a fa) (hb : PV M W X b fb) : PN M W X (.BinOp a .Mult b pos) (eOpN dRep fa fb) := by
  obtain ⟨ta, ea, qa⟩ := ha
  obtain ⟨tb, eb, qb⟩ := hb
  exact ⟨_, pe_op (r := rMulAll M.F.K) (by rw [← c.hK]; exact op_mulAll) ea eb, trN_op opN_rep qa qb⟩
end

/-! ### calls by values -/
def CallT (M : Fr) (W : WX) (r : List V → Hp → VK → Prop) (g : List D → Res D) : Prop :=
  ∀ (ds : List D) (vs : List V) (σ : St) (G H : Hp) (ε : Ev), SR M G H σ ε → RpL M.F G ds vs → ∀ Q : VK, Post M W σ G H ε (Rp M.F) ((g ds).bind fun d => .ok (d, ε)) Q → r vs H Q
def CallN (M : Fr) (W : WX) (r : List V → Hp → VK → Prop) (g : List D → Res (List D)) : Prop :=
  ∀ (ds : List D) (vs : List V) (σ : St) (G H : Hp) (ε : Ev), SR M G H σ ε → RpL M.F G ds vs → ∀ Q : VK, PostN M W σ G H ε ((g ds).bind fun d => .ok (d, ε)) Q → r vs H Q
@[reducible, simp] def eCB (g : List D → Res D) (fs : Ev → Res (List D × Ev)) : Ev → Res (D × Ev) := fun ε => (fs ε).bind fun p => (g p.1).bind fun d => .ok (d, p.2)
@[reducible] def eCN (g : List D → Res (List D)) (fs : Ev → Res (List D × Ev)) : Ev → Res (List D × Ev) := fun ε => (fs ε).bind fun p => (g p.1).bind fun d => .ok (d, p.2)
theorem tr_cb {M : Fr} {W : WX} {r : List V → Hp → VK → Prop} {g : List D → Res D} {t : TA} {fs : Ev → Res (List D × Ev)} (h : CallT M W r g) (ht : Tr M W (RpL M.F) t fs) : Tr M W (Rp M.F) (tCB r t) (eCB g fs) := by
  refine Tr.bind (f2 := fun ds ε => (g ds).bind fun d => .ok (d, ε)) (t2 := fun vs σ H1 Q => r vs H1 Q) ht ?_
  intro ds vs σ G H ε s rs Q hp
  exact h ds vs σ G H ε s rs Q hp
theorem tr_cn {M : Fr} {W : WX} {r : List V → Hp → VK → Prop} {g : List D → Res (List D)} {t : TA} {fs : Ev → Res (List D × Ev)} (h : CallN M W r g) (ht : Tr M W (RpL M.F) t fs) : TrN M W (tCB r t) (eCN g fs) := by
  intro σ G H ε s Q hp
  refine ht σ G H ε s _ ?_
  simp only [eCN] at hp
  cases e : fs ε with
  | stuck => rw [e] at hp; exact hp
  | err c => rw [e] at hp; exact hp
  | ok p =>
    rw [e] at hp
    intro vs G1 H1 s1 st1 rs
    exact h p.1 vs σ G1 H1 p.2 s1 rs Q (PostN.shift s1 st1 hp)

def fAbs : List D → Res D
  | [.int i] => .ok (.int (if i < 0 then -i else i))
  | _ => .stuck
def fInt : List D → Res D
  | [.int i] => .ok (.int i)
  | [.bl k] => .ok (.int (if k then 1 else 0))
  | _ => .stuck
@[simp] def fMax2 : List D → Res D
  | [.int i, .int j] => .ok (.int (if j > i then j else i))
  | _ => .stuck
@[simp] def fMin2 : List D → Res D
  | [.int i, .int j] => .ok (.int (if j < i then j else i))
  | _ => .stuck
@[simp] def fGcd : List D → Res D
  | [.int a, .int b] => .ok (.int ((Nat.gcd a.natAbs b.natAbs : Nat) : Int))
  | _ => .stuck
@[simp] def fLen : List D → Res D
  | [.lst ds] => .ok (.int ds.length)
  | [.tup ds] => .ok (.int ds.length)
  | [.str z] => if z.length ≤ 1000000 then .ok (.int z.length) else .stuck
  | _ => .stuck
@[simp] def fTuple : List D → Res D
  | [.lst ds] => .ok (.tup ds)
  | [.tup ds] => .ok (.tup ds)
  | _ => .stuck
def fList : List D → Res (List D)
  | [.scr ns] => .ok (ns.map D.int)
  | [.lst ds] => .ok ds
  | [.tup ds] => .ok ds
  | _ => .stuck
def allI : List D → Option (List Int)
  | [] => some []
  | .int i :: r => (allI r).map (i :: ·)
  | _ :: _ => none
def allB : List D → Option (List Bool)
  | [] => some []
  | .bl i :: r => (allB r).map (i :: ·)
  | _ :: _ => none
theorem allI_map : ∀ {ds : List D} {ns : List Int}, allI ds = some ns → ds = ns.map D.int
  | [], ns, h => by simp only [allI, Option.some.injEq] at h; subst h; rfl
  | d :: ds, ns, h => by
    cases d with
    | int i =>
      simp only [allI] at h
      cases e : allI ds with
      | none => rw [e] at h; cases h
      | some ms =>
        rw [e] at h
        simp only [Option.map_some, Option.some.injEq] at h
        subst h
        rw [allI_map e]; rfl
    | _ => simp [allI] at h
theorem allB_map : ∀ {ds : List D} {ns : List Bool}, allB ds = some ns → ds = ns.map D.bl
  | [], ns, h => by simp only [allB, Option.some.injEq] at h; subst h; rfl
  | d :: ds, ns, h => by
    cases d with
    | bl i =>
      simp only [allB] at h
      cases e : allB ds with
      | none => rw [e] at h; cases h
      | some ms =>
        rw [e] at h
        simp only [Option.map_some, Option.some.injEq] at h
        subst h
        rw [allB_map e]; rfl
    | _ => simp [allB] at h
@[simp] theorem allI_of (ns : List Int) : allI (ns.map D.int) = some ns := by
  induction ns with
  | nil => rfl
  | cons n ns ih => simp [allI, ih]
@[simp] theorem allB_of (ns : List Bool) : allB (ns.map D.bl) = some ns := by
  induction ns with
  | nil => rfl
  | cons n ns ih => simp [allB, ih]
def fAll : List D → Res D
  | [.lst ds] => match allB ds with
    | some bs => .ok (.bl (bs.all id))
    | none => .stuck
  | _ => .stuck
def fAny : List D → Res D
  | [.lst ds] => match allB ds with
    | some bs => .ok (.bl (bs.any id))
    | none => .stuck
  | _ => .stuck
def fSum : List D → Res D
  | [.lst ds] => match allI ds with
    | some ns => .ok (.int ns.sum)
    | none => .stuck
  | _ => .stuck
def maxI : List Int → Int
  | [] => 0
  | n :: ns => ns.foldl max n
def minI : List Int → Int
  | [] => 0
  | n :: ns => ns.foldl min n
def fMaxL : List D → Res D
  | [.lst ds] => match allI ds with
    | some (n :: ns) => .ok (.int (maxI (n :: ns)))
    | _ => .stuck
  | _ => .stuck
def fMinL : List D → Res D
  | [.lst ds] => match allI ds with
    | some (n :: ns) => .ok (.int (minI (n :: ns)))
    | _ => .stuck
  | _ => .stuck
def combOk (a b : Int) : Bool := decide (0 ≤ a ∧ 0 ≤ b ∧ a ≤ 18000)
def fComb : List D → Res D
  | [.int a, .int b] => if combOk a b then .ok (.int (PySem.W.mcComb a b)) else .stuck
  | _ => .stuck
def fFact : List D → Res D
  | [.int a] => if decide (0 ≤ a ∧ a ≤ 20000) then .ok (.int ((Builtin.Math.factorialNat a.toNat : Nat) : Int)) else .stuck
  | _ => .stuck
theorem foldl_max_mem : ∀ (ns : List Int) (n : Int), ns.foldl max n = n ∨ ns.foldl max n ∈ ns
  | [], n => .inl rfl
  | m :: ns, n => by
    rcases foldl_max_mem ns (max n m) with h | h
    · rw [List.foldl_cons, h]
      rcases Int.le_total n m with z | z
      · rw [Int.max_eq_right z]; exact .inr List.mem_cons_self
      · rw [Int.max_eq_left z]; exact .inl rfl
    · exact .inr (List.mem_cons_of_mem _ h)
theorem foldl_max_ge : ∀ (ns : List Int) (n : Int), n ≤ ns.foldl max n ∧ ∀ y ∈ ns, y ≤ ns.foldl max n
  | [], n => ⟨Int.le_refl _, fun y h => by simp at h⟩
  | m :: ns, n => by
    obtain ⟨h1, h2⟩ := foldl_max_ge ns (max n m)
    rw [List.foldl_cons]
    refine ⟨by omega, fun y hy => ?_⟩
    rcases List.mem_cons.mp hy with rfl | hy
    · omega
    · exact h2 y hy
theorem foldl_min_mem : ∀ (ns : List Int) (n : Int), ns.foldl min n = n ∨ ns.foldl min n ∈ ns
  | [], n => .inl rfl
  | m :: ns, n => by
    rcases foldl_min_mem ns (min n m) with h | h
    · rw [List.foldl_cons, h]
      rcases Int.le_total n m with z | z
      · rw [Int.min_eq_left z]; exact .inl rfl
      · rw [Int.min_eq_right z]; exact .inr List.mem_cons_self
    · exact .inr (List.mem_cons_of_mem _ h)
theorem foldl_min_le : ∀ (ns : List Int) (n : Int), ns.foldl min n ≤ n ∧ ∀ y ∈ ns, ns.foldl min n ≤ y
  | [], n => ⟨Int.le_refl _, fun y h => by simp at h⟩
  | m :: ns, n => by
    obtain ⟨h1, h2⟩ := foldl_min_le ns (min n m)
    rw [List.foldl_cons]
    refine ⟨by omega, fun y hy => ?_⟩
    rcases List.mem_cons.mp hy with rfl | hy
    · omega
    · exact h2 y hy

theorem rpL1 {F : Fx} {G : Hp} {d : D} {vs : List V} (h : RpL F G [d] vs) : ∃ v, vs = [v] ∧ Rp F G d v := by
  obtain ⟨v, r, rfl, a, l⟩ := h.of_cons
  rw [l.of_nil]
  exact ⟨v, rfl, a⟩
theorem rpL2 {F : Fx} {G : Hp} {d e : D} {vs : List V} (h : RpL F G [d, e] vs) : ∃ v w, vs = [v, w] ∧ Rp F G d v ∧ Rp F G e w := by
  obtain ⟨v, r, rfl, a, l⟩ := h.of_cons
  obtain ⟨w, rfl, b⟩ := rpL1 l
  exact ⟨v, w, rfl, a, b⟩
theorem rpL_ints {F : Fx} {G : Hp} : ∀ ns : List Int, RpL F G (ns.map D.int) (ns.map V.int)
  | [] => RpL.nil
  | n :: ns => RpL.cons (rp_int.mpr rfl) (rpL_ints ns)
section
variable {M : Fr} {W : WX}
theorem ct_abs : CallT M W (fun xs H Q => ∃ i, xs = [.int i] ∧ Q (.int (if i < 0 then -i else i)) H) fAbs := by
  intro ds vs σ G H ε s rs Q hp
  unfold fAbs at hp
  split at hp
  · obtain ⟨v, rfl, r⟩ := rpL1 rs
    rw [rp_int] at r; subst r
    exact ⟨_, rfl, post_ok hp s (rp_int.mpr rfl)⟩
  · exact hp.elim
theorem ct_int : CallT M W (fun xs H Q => (∃ i, xs = [.int i] ∧ Q (.int i) H) ∨ ∃ k, xs = [.bl k] ∧ Q (.int (if k then 1 else 0)) H) fInt := by
  intro ds vs σ G H ε s rs Q hp
  unfold fInt at hp
  split at hp
  · obtain ⟨v, rfl, r⟩ := rpL1 rs
    rw [rp_int] at r; subst r
    exact .inl ⟨_, rfl, post_ok hp s (rp_int.mpr rfl)⟩
  · obtain ⟨v, rfl, r⟩ := rpL1 rs
    rw [rp_bl] at r; subst r
    exact .inr ⟨_, rfl, post_ok hp s (rp_int.mpr rfl)⟩
  · exact hp.elim
theorem ct_max2 : CallT M W (fun xs H Q => ∃ i j, xs = [.int i, .int j] ∧ Q (.int (if j > i then j else i)) H) fMax2 := by
  intro ds vs σ G H ε s rs Q hp
  unfold fMax2 at hp
  split at hp
  · obtain ⟨v, w, rfl, r, r2⟩ := rpL2 rs
    rw [rp_int] at r r2; subst r r2
    exact ⟨_, _, rfl, post_ok hp s (rp_int.mpr rfl)⟩
  · exact hp.elim
theorem ct_min2 : CallT M W (fun xs H Q => ∃ i j, xs = [.int i, .int j] ∧ Q (.int (if j < i then j else i)) H) fMin2 := by
  intro ds vs σ G H ε s rs Q hp
  unfold fMin2 at hp
  split at hp
  · obtain ⟨v, w, rfl, r, r2⟩ := rpL2 rs
    rw [rp_int] at r r2; subst r r2
    exact ⟨_, _, rfl, post_ok hp s (rp_int.mpr rfl)⟩
  · exact hp.elim
theorem ct_gcd : CallT M W rGcd fGcd := by
  intro ds vs σ G H ε s rs Q hp
  unfold fGcd at hp
  split at hp
  · obtain ⟨v, w, rfl, r, r2⟩ := rpL2 rs
    rw [rp_int] at r r2; subst r r2
    exact ⟨_, _, rfl, post_ok hp s (rp_int.mpr rfl)⟩
  · exact hp.elim
def rLenAll (K : PySem.W.Frag) : List V → Hp → VK → Prop := fun xs H Q => (∃ p ys, xs = [.ref p] ∧ (SqL K H p ys ∨ SqT K H p ys) ∧ Q (.int ys.length) H) ∨ ∃ z, xs = [.str z] ∧ z.length ≤ sizeLine ∧ Q (.int z.length) H
theorem call_lenAll {X : Cx} : CallR X (.builtin "len") (rLenAll X.K) := call_len_seq.or call_len_str
theorem ct_len : CallT M W (rLenAll M.F.K) fLen := by
  intro ds vs σ G H ε s rs Q hp
  unfold fLen at hp
  split at hp
  · obtain ⟨v, rfl, r⟩ := rpL1 rs
    obtain ⟨p, ws, rfl, hp', l⟩ := rp_lst.mp r
    refine .inl ⟨p, ws, rfl, .inl (SqL.of (s.sub _ _ hp')), ?_⟩
    rw [← l.length]
    exact post_ok hp s (rp_int.mpr rfl)
  · obtain ⟨v, rfl, r⟩ := rpL1 rs
    obtain ⟨p, ws, rfl, hp', l⟩ := rp_tup.mp r
    refine .inl ⟨p, ws, rfl, .inr (sqT_mono s.sub hp'), ?_⟩
    rw [← l.length]
    exact post_ok hp s (rp_int.mpr rfl)
  · obtain ⟨v, rfl, r⟩ := rpL1 rs
    rw [rp_str] at r; subst r
    split at hp
    · rename_i hz
      exact .inr ⟨_, rfl, line_big hz, post_ok hp s (rp_int.mpr rfl)⟩
    · exact hp.elim
  · exact hp.elim
theorem ct_tuple : CallT M W (fun xs H Q => ∃ p ys, xs = [.ref p] ∧ ((SqL M.F.K H p ys ∧ ∀ l, H l = none → Q (.ref l) (upd H l (.tup ys))) ∨ (SqT M.F.K H p ys ∧ Q (.ref p) H))) fTuple := by
  intro ds vs σ G H ε s rs Q hp
  unfold fTuple at hp
  split at hp
  · obtain ⟨v, rfl, r⟩ := rpL1 rs
    obtain ⟨p, ws, rfl, hp', l⟩ := rp_lst.mp r
    refine ⟨p, ws, rfl, .inl ⟨SqL.of (s.sub _ _ hp'), fun q hq => ?_⟩⟩
    exact post_new hp s hq (fun ps z => by cases z) (rp_tup.mpr ⟨q, _, rfl, .inl (.inl upd_same), l.mono (up_mono (s.gnone hq))⟩)
  · obtain ⟨v, rfl, r⟩ := rpL1 rs
    obtain ⟨p, ws, rfl, hp', l⟩ := rp_tup.mp r
    exact ⟨p, ws, rfl, .inr ⟨sqT_mono s.sub hp', post_ok hp s (rp_tup.mpr ⟨p, ws, rfl, hp', l⟩)⟩⟩
  · exact hp.elim
theorem cn_list : CallN M W (fun xs H Q => ∃ p ys, xs = [.ref p] ∧ (SqL M.F.K H p ys ∨ SqT M.F.K H p ys) ∧ ∀ l, H l = none → Q (.ref l) (upd H l (.lst ys))) fList := by
  intro ds vs σ G H ε s rs Q hp
  unfold fList at hp
  split at hp
  · rename_i ns
    obtain ⟨v, rfl, r⟩ := rpL1 rs
    obtain ⟨p, rfl, hq⟩ : ∃ a, v = .ref a ∧ SqL M.F.K G a (ns.map V.int) := by simpa only [Rp] using r
    exact ⟨p, _, rfl, .inl (sqL_mono s.sub hq), fun q hq => postN_new hp s hq (rpL_ints ns)⟩
  · obtain ⟨v, rfl, r⟩ := rpL1 rs
    obtain ⟨p, ws, rfl, hp', l⟩ := rp_lst.mp r
    exact ⟨p, ws, rfl, .inl (SqL.of (s.sub _ _ hp')), fun q hq => postN_new hp s hq l⟩
  · obtain ⟨v, rfl, r⟩ := rpL1 rs
    obtain ⟨p, ws, rfl, hp', l⟩ := rp_tup.mp r
    exact ⟨p, ws, rfl, .inr (sqT_mono s.sub hp'), fun q hq => postN_new hp s hq l⟩
  · exact hp.elim
theorem ct_all : CallT M W (rAll M.F.K) fAll := by
  intro ds vs σ G H ε s rs Q hp
  unfold fAll at hp
  split at hp
  · split at hp
    · rename_i bs e
      obtain ⟨v, rfl, r⟩ := rpL1 rs
      obtain ⟨p, ws, rfl, hp', l⟩ := rp_lst.mp r
      rw [allB_map e] at l
      have e2 := l.mapB
      subst e2
      exact ⟨p, bs, rfl, SqL.of (s.sub _ _ hp'), post_ok hp s (rp_bl.mpr rfl)⟩
    · exact hp.elim
  · exact hp.elim
theorem ct_any : CallT M W (rAny M.F.K) fAny := by
  intro ds vs σ G H ε s rs Q hp
  unfold fAny at hp
  split at hp
  · split at hp
    · rename_i bs e
      obtain ⟨v, rfl, r⟩ := rpL1 rs
      obtain ⟨p, ws, rfl, hp', l⟩ := rp_lst.mp r
      rw [allB_map e] at l
      have e2 := l.mapB
      subst e2
      exact ⟨p, bs, rfl, SqL.of (s.sub _ _ hp'), post_ok hp s (rp_bl.mpr rfl)⟩
    · exact hp.elim
  · exact hp.elim
theorem ct_sum : CallT M W (rSum M.F.K) fSum := by
  intro ds vs σ G H ε s rs Q hp
  unfold fSum at hp
  split at hp
  · split at hp
    · rename_i bs e
      obtain ⟨v, rfl, r⟩ := rpL1 rs
      obtain ⟨p, ws, rfl, hp', l⟩ := rp_lst.mp r
      rw [allI_map e] at l
      have e2 := l.mapI
      subst e2
      exact ⟨p, bs, rfl, SqL.of (s.sub _ _ hp'), post_ok hp s (rp_int.mpr rfl)⟩
    · exact hp.elim
  · exact hp.elim
theorem ct_maxL : CallT M W (rMax M.F.K) fMaxL := by
  intro ds vs σ G H ε s rs Q hp
  unfold fMaxL at hp
  split at hp
  · split at hp
    · rename_i n ns e
      obtain ⟨v, rfl, r⟩ := rpL1 rs
      obtain ⟨p, ws, rfl, hp', l⟩ := rp_lst.mp r
      rw [allI_map e] at l
      have e2 := l.mapI
      subst e2
      refine ⟨p, n :: ns, rfl, SqL.of (s.sub _ _ hp'), Nat.succ_pos _, fun m hm hle => ?_⟩
      have em : m = maxI (n :: ns) := by
        have h1 := foldl_max_ge ns n
        have h2 := foldl_max_mem ns n
        have h3 : maxI (n :: ns) ≤ m := by
          rcases h2 with z | z
          · rw [show maxI (n :: ns) = ns.foldl max n from rfl, z]; exact hle _ List.mem_cons_self
          · exact hle _ (List.mem_cons_of_mem _ z)
        have h4 : m ≤ maxI (n :: ns) := by
          rcases List.mem_cons.mp hm with rfl | z
          · exact h1.1
          · exact h1.2 _ z
        omega
      rw [em]
      exact post_ok hp s (rp_int.mpr rfl)
    · exact hp.elim
  · exact hp.elim
theorem ct_minL : CallT M W (rMin M.F.K) fMinL := by
  intro ds vs σ G H ε s rs Q hp
  unfold fMinL at hp
  split at hp
  · split at hp
    · rename_i n ns e
      obtain ⟨v, rfl, r⟩ := rpL1 rs
      obtain ⟨p, ws, rfl, hp', l⟩ := rp_lst.mp r
      rw [allI_map e] at l
      have e2 := l.mapI
      subst e2
      refine ⟨p, n :: ns, rfl, SqL.of (s.sub _ _ hp'), Nat.succ_pos _, fun m hm hle => ?_⟩
      have em : m = minI (n :: ns) := by
        have h1 := foldl_min_le ns n
        have h2 := foldl_min_mem ns n
        have h3 : m ≤ minI (n :: ns) := by
          rcases h2 with z | z
          · rw [show minI (n :: ns) = ns.foldl min n from rfl, z]; exact hle _ List.mem_cons_self
          · exact hle _ (List.mem_cons_of_mem _ z)
        have h4 : minI (n :: ns) ≤ m := by
          rcases List.mem_cons.mp hm with rfl | z
          · exact h1.1
          · exact h1.2 _ z
        omega
      rw [em]
      exact post_ok hp s (rp_int.mpr rfl)
    · exact hp.elim
  · exact hp.elim
def rComb : List V → Hp → VK → Prop := fun vs H Q => ∃ a b : Int, vs = [.int a, .int b] ∧ combOk a b = true ∧ Q (.int (PySem.W.mcComb a b)) H
theorem cr_comb {X : Cx} : CallR X (.builtin "math.comb") rComb := by
  intro pins s σ H vs us Q I r h
  obtain ⟨a, b, rfl, ok, q⟩ := h
  obtain ⟨t, u, rfl⟩ := Vals.int2 r
  have ok' := of_decide_eq_true ok
  exact PySem.W.mc_comb (by omega) (by omega) (by omega) (.inr (by omega)) fun _ => ⟨.int _, H, I.tok _, ⟨_, rfl⟩, q⟩
def rFact : List V → Hp → VK → Prop := fun vs H Q => ∃ a : Int, vs = [.int a] ∧ 0 ≤ a ∧ a ≤ 20000 ∧ Q (.int ((Builtin.Math.factorialNat a.toNat : Nat) : Int)) H
theorem cr_fact {X : Cx} : CallR X (.builtin "math.factorial") rFact := by
  intro pins s σ H vs us Q I r h
  obtain ⟨a, rfl, h0, h1, q⟩ := h
  obtain ⟨u, rfl, t, rfl⟩ := vals1 r
  exact PySem.W.mc_factorial h0 h1 fun _ => ⟨.int _, H, I.tok _, ⟨_, rfl⟩, q⟩
theorem ct_comb : CallT M W rComb fComb := by
  intro ds vs σ G H ε s rs Q hp
  unfold fComb at hp
  split at hp
  · obtain ⟨v, w, rfl, r, r2⟩ := rpL2 rs
    rw [rp_int] at r r2; subst r r2
    split at hp
    · rename_i h
      exact ⟨_, _, rfl, h, post_ok hp s (rp_int.mpr rfl)⟩
    · exact hp.elim
  · exact hp.elim
theorem ct_fact : CallT M W rFact fFact := by
  intro ds vs σ G H ε s rs Q hp
  unfold fFact at hp
  split at hp
  · obtain ⟨v, rfl, r⟩ := rpL1 rs
    rw [rp_int] at r; subst r
    split at hp
    · rename_i h
      have h' := of_decide_eq_true h
      exact ⟨_, rfl, h'.1, h'.2, post_ok hp s (rp_int.mpr rfl)⟩
    · exact hp.elim
  · exact hp.elim
/-! isinstance -/
def tyName : D → Option String
  | .non => some "NoneType"
  | .bl _ => some "bool"
  | .int _ => some "int"
  | .str _ => some "str"
  | .tup _ => some "tuple"
  | .lst _ => some "list"
  | .fn _ => none
  | .scr _ => none
def fIsi (T : String) : List D → Res D
  | [d] => match tyName d with
    | some t => match kitB t T with
      | some b => .ok (.bl b)
      | none => .stuck
    | none => .stuck
  | _ => .stuck
theorem tyx_of {K : PySem.W.Frag} {F : Fx} {G H : Hp} (hK : K = F.K) (sub : ∀ q o, G q = some o → H q = some o) {d : D} {v : V} {t : String} (r : Rp F G d v) (e : tyName d = some t) : TyX K H v (.type t) := by
  cases d with
  | non => cases e; rw [rp_non] at r; subst r; exact .base .non
  | bl b => cases e; rw [rp_bl] at r; subst r; exact .base (.bl b)
  | int b => cases e; rw [rp_int] at r; subst r; exact .base (.int b)
  | str b => cases e; rw [rp_str] at r; subst r; exact .base (.str b)
  | tup ds =>
    cases e
    obtain ⟨a, vs, rfl, h, _⟩ := rp_tup.mp r
    rcases h with (h | ⟨o, h⟩) | ⟨o, its, n, h1, h2, _⟩
    · exact .base (.tup (sub _ _ h))
    · exact .fTuple (sub _ _ h)
    · exact .kTuple (by rw [hK]; exact h1) h2
  | lst ds =>
    cases e
    obtain ⟨a, vs, rfl, h, _⟩ := rp_lst.mp r
    exact .base (.lst (sub _ _ h))
  | fn k => cases e
  | scr k => cases e
end
section
variable {M : Fr} {W : WX} {X : Cx} {k : Nat} {a b e : Expr} {es rest : List Expr} {fa fb f : Ev → Res (D × Ev)} {g : Ev → Res (List D × Ev)} {pos : Pos}
/-- a built-in function by its name -/
theorem pv_callB {x : Str} {id : String} {p : Pos} {r : List V → Hp → VK → Prop} {gf : List D → Res D} {fs : Ev → Res (List D × Ev)} (hc : CallR X (.builtin id) r) (hT : CallT M W r gf) (hm : X.mg x = none) (hv : bootBuiltins x = some (.builtin id)) (ha : PA' M W X (e :: es) fs)
    (hg : Gl X x := by rfl) (hn : x ≠ "__name__" := by decide) (hdb : (x == ("__debug__" : Str)) = false := by decide)
    (he : starEach (e :: es) X.env = (false, eval e X.env) :: starEach es X.env := by rfl) (hpl : (backTo pos (starEach es X.env)).any (·.1) = false := by rfl) : PV M W X (.Call (.Name x p) (e :: es) [] pos) (eCB gf fs) := by
  obtain ⟨⟨t, et, qt⟩, _⟩ := ha
  exact ⟨_, pe_callB hc hg hm hv et hn hdb he hpl, tr_cb hT qt⟩
theorem pv_callTy {x : Str} {T : String} {p : Pos} {r : List V → Hp → VK → Prop} {gf : List D → Res D} {fs : Ev → Res (List D × Ev)} (hc : CallR X (.type T) r) (hT : CallT M W r gf) (hm : X.mg x = none) (hv : bootBuiltins x = some (.type T)) (ha : PA' M W X (e :: es) fs)
    (hg : Gl X x := by rfl) (hn : x ≠ "__name__" := by decide) (hdb : (x == ("__debug__" : Str)) = false := by decide)
    (he : starEach (e :: es) X.env = (false, eval e X.env) :: starEach es X.env := by rfl) (hpl : (backTo pos (starEach es X.env)).any (·.1) = false := by rfl) : PV M W X (.Call (.Name x p) (e :: es) [] pos) (eCB gf fs) := by
  obtain ⟨⟨t, et, qt⟩, _⟩ := ha
  exact ⟨_, pe_callTy hc hg hm hv et hn hdb he hpl, tr_cb hT qt⟩
theorem pn_callTy {x : Str} {T : String} {p : Pos} {r : List V → Hp → VK → Prop} {gf : List D → Res (List D)} {fs : Ev → Res (List D × Ev)} (hc : CallR X (.type T) r) (hT : CallN M W r gf) (hm : X.mg x = none) (hv : bootBuiltins x = some (.type T)) (ha : PA' M W X (e :: es) fs)
    (hg : Gl X x := by rfl) (hn : x ≠ "__name__" := by decide) (hdb : (x == ("__debug__" : Str)) = false := by decide)
    (he : starEach (e :: es) X.env = (false, eval e X.env) :: starEach es X.env := by rfl) (hpl : (backTo pos (starEach es X.env)).any (·.1) = false := by rfl) : PN M W X (.Call (.Name x p) (e :: es) [] pos) (eCN gf fs) := by
  obtain ⟨⟨t, et, qt⟩, _⟩ := ha
  exact ⟨_, pe_callTy hc hg hm hv et hn hdb he hpl, tr_cn hT qt⟩
/-- a module's name for a built-in function -/
theorem pv_callM {x : Str} {id : String} {p : Pos} {r : List V → Hp → VK → Prop} {gf : List D → Res D} {fs : Ev → Res (List D × Ev)} (hc : CallR X (.builtin id) r) (hT : CallT M W r gf) (hm : X.mg x = some (.builtin id)) (ha : PA' M W X (e :: es) fs)
    (hg : Gl X x := by rfl) (hdb : (x == ("__debug__" : Str)) = false := by decide)
    (he : starEach (e :: es) X.env = (false, eval e X.env) :: starEach es X.env := by rfl) (hpl : (backTo pos (starEach es X.env)).any (·.1) = false := by rfl) : PV M W X (.Call (.Name x p) (e :: es) [] pos) (eCB gf fs) := by
  obtain ⟨⟨t, et, qt⟩, _⟩ := ha
  exact ⟨_, pe_callBfun hc hg hm et hdb he hpl, tr_cb hT qt⟩

theorem pv_abs {p : Pos} {fs} (hm : X.mg "abs" = none) (ha : PA' M W X [e] fs) (hg : Gl X "abs" := by rfl) (he : starEach [e] X.env = (false, eval e X.env) :: starEach [] X.env := by rfl) : PV M W X (.Call (.Name "abs" p) [e] [] pos) (eCB fAbs fs) :=
  pv_callB call_abs ct_abs hm (by decide +kernel) ha hg (by decide) (by decide) he rfl
theorem pv_intc {p : Pos} {fs} (hm : X.mg "int" = none) (ha : PA' M W X [e] fs) (hg : Gl X "int" := by rfl) (he : starEach [e] X.env = (false, eval e X.env) :: starEach [] X.env := by rfl) : PV M W X (.Call (.Name "int" p) [e] [] pos) (eCB fInt fs) :=
  pv_callTy call_int1 ct_int hm (by decide +kernel) ha hg (by decide) (by decide) he rfl
theorem pv_len (c : CO M W k X) {p : Pos} {fs} (hm : X.mg "len" = none) (ha : PA' M W X [e] fs) (hg : Gl X "len" := by rfl) (he : starEach [e] X.env = (false, eval e X.env) :: starEach [] X.env := by rfl) : PV M W X (.Call (.Name "len" p) [e] [] pos) (eCB fLen fs) :=
  pv_callB (by rw [← c.hK]; exact call_lenAll) ct_len hm (by decide +kernel) ha hg (by decide) (by decide) he rfl
theorem pv_tuple (c : CO M W k X) {p : Pos} {fs} (hm : X.mg "tuple" = none) (ha : PA' M W X [e] fs) (hg : Gl X "tuple" := by rfl) (he : starEach [e] X.env = (false, eval e X.env) :: starEach [] X.env := by rfl) : PV M W X (.Call (.Name "tuple" p) [e] [] pos) (eCB fTuple fs) :=
  pv_callTy (by rw [← c.hK]; exact call_tuple_of) ct_tuple hm (by decide +kernel) ha hg (by decide) (by decide) he rfl
theorem pn_list (c : CO M W k X) {p : Pos} {fs} (hm : X.mg "list" = none) (ha : PA' M W X [e] fs) (hg : Gl X "list" := by rfl) (he : starEach [e] X.env = (false, eval e X.env) :: starEach [] X.env := by rfl) : PN M W X (.Call (.Name "list" p) [e] [] pos) (eCN fList fs) :=
  pn_callTy (by rw [← c.hK]; exact call_list_of) cn_list hm (by decide +kernel) ha hg (by decide) (by decide) he rfl
theorem pv_all (c : CO M W k X) {p : Pos} {fs} (hm : X.mg "all" = none) (ha : PA' M W X [e] fs) (hg : Gl X "all" := by rfl) (he : starEach [e] X.env = (false, eval e X.env) :: starEach [] X.env := by rfl) : PV M W X (.Call (.Name "all" p) [e] [] pos) (eCB fAll fs) :=
  pv_callB (by rw [← c.hK]; exact cr_all c.calm) ct_all hm (by decide +kernel) ha hg (by decide) (by decide) he rfl
theorem pv_any (c : CO M W k X) {p : Pos} {fs} (hm : X.mg "any" = none) (ha : PA' M W X [e] fs) (hg : Gl X "any" := by rfl) (he : starEach [e] X.env = (false, eval e X.env) :: starEach [] X.env := by rfl) : PV M W X (.Call (.Name "any" p) [e] [] pos) (eCB fAny fs) :=
  pv_callB (by rw [← c.hK]; exact cr_any c.calm) ct_any hm (by decide +kernel) ha hg (by decide) (by decide) he rfl
theorem pv_sum (c : CO M W k X) {p : Pos} {fs} (hm : X.mg "sum" = none) (ha : PA' M W X [e] fs) (hg : Gl X "sum" := by rfl) (he : starEach [e] X.env = (false, eval e X.env) :: starEach [] X.env := by rfl) : PV M W X (.Call (.Name "sum" p) [e] [] pos) (eCB fSum fs) :=
  pv_callB (by rw [← c.hK]; exact cr_sum c.calm) ct_sum hm (by decide +kernel) ha hg (by decide) (by decide) he rfl
theorem pv_max1 (c : CO M W k X) {p : Pos} {fs} (hm : X.mg "max" = none) (ha : PA' M W X [e] fs) (hg : Gl X "max" := by rfl) (he : starEach [e] X.env = (false, eval e X.env) :: starEach [] X.env := by rfl) : PV M W X (.Call (.Name "max" p) [e] [] pos) (eCB fMaxL fs) :=
  pv_callB (by rw [← c.hK]; exact cr_max c.calm) ct_maxL hm (by decide +kernel) ha hg (by decide) (by decide) he rfl
theorem pv_min1 (c : CO M W k X) {p : Pos} {fs} (hm : X.mg "min" = none) (ha : PA' M W X [e] fs) (hg : Gl X "min" := by rfl) (he : starEach [e] X.env = (false, eval e X.env) :: starEach [] X.env := by rfl) : PV M W X (.Call (.Name "min" p) [e] [] pos) (eCB fMinL fs) :=
  pv_callB (by rw [← c.hK]; exact cr_min c.calm) ct_minL hm (by decide +kernel) ha hg (by decide) (by decide) he rfl
theorem pv_max2 (c : CO M W k X) {e2 : Expr} {p : Pos} {fs} (hm : X.mg "max" = none) (ha : PA' M W X [e, e2] fs) (hg : Gl X "max" := by rfl) (he : starEach [e, e2] X.env = (false, eval e X.env) :: starEach [e2] X.env := by rfl) (hpl : (backTo pos (starEach [e2] X.env)).any (·.1) = false := by rfl) : PV M W X (.Call (.Name "max" p) [e, e2] [] pos) (eCB fMax2 fs) :=
  pv_callB (call_max2 c.calm) ct_max2 hm (by decide +kernel) ha hg (by decide) (by decide) he hpl
theorem pv_min2 (c : CO M W k X) {e2 : Expr} {p : Pos} {fs} (hm : X.mg "min" = none) (ha : PA' M W X [e, e2] fs) (hg : Gl X "min" := by rfl) (he : starEach [e, e2] X.env = (false, eval e X.env) :: starEach [e2] X.env := by rfl) (hpl : (backTo pos (starEach [e2] X.env)).any (·.1) = false := by rfl) : PV M W X (.Call (.Name "min" p) [e, e2] [] pos) (eCB fMin2 fs) :=
  pv_callB (call_min2 c.calm) ct_min2 hm (by decide +kernel) ha hg (by decide) (by decide) he hpl
theorem pv_gcd {e2 : Expr} {x : Str} {p : Pos} {fs} (hm : X.mg x = some (.builtin "math.gcd")) (ha : PA' M W X [e, e2] fs) (hg : Gl X x := by rfl) (hdb : (x == ("__debug__" : Str)) = false := by decide) (he : starEach [e, e2] X.env = (false, eval e X.env) :: starEach [e2] X.env := by rfl) (hpl : (backTo pos (starEach [e2] X.env)).any (·.1) = false := by rfl) : PV M W X (.Call (.Name x p) [e, e2] [] pos) (eCB fGcd fs) :=
  pv_callM cr_gcd ct_gcd hm ha hg hdb he hpl
theorem pv_comb {e2 : Expr} {x : Str} {p : Pos} {fs} (hm : X.mg x = some (.builtin "math.comb")) (ha : PA' M W X [e, e2] fs) (hg : Gl X x := by rfl) (hdb : (x == ("__debug__" : Str)) = false := by decide) (he : starEach [e, e2] X.env = (false, eval e X.env) :: starEach [e2] X.env := by rfl) (hpl : (backTo pos (starEach [e2] X.env)).any (·.1) = false := by rfl) : PV M W X (.Call (.Name x p) [e, e2] [] pos) (eCB fComb fs) :=
  pv_callM cr_comb ct_comb hm ha hg hdb he hpl
theorem pv_fact {x : Str} {p : Pos} {fs} (hm : X.mg x = some (.builtin "math.factorial")) (ha : PA' M W X [e] fs) (hg : Gl X x := by rfl) (hdb : (x == ("__debug__" : Str)) = false := by decide) (he : starEach [e] X.env = (false, eval e X.env) :: starEach [] X.env := by rfl) : PV M W X (.Call (.Name x p) [e] [] pos) (eCB fFact fs) :=
  pv_callM cr_fact ct_fact hm ha hg hdb he rfl
/-- isinstance(e, T), T a built-in type -/
theorem pv_isi (c : CO M W k X) {x : Str} {T : String} {p p2 : Pos} (hm : X.mg "isinstance" = none) (hx : X.mg x = none) (hv : bootBuiltins x = some (.type T)) (ha : PV M W X e f) (hg : Gl X "isinstance" := by rfl) (hg2 : Gl X x := by rfl) (hn : x ≠ "__name__" := by decide) (hdb : (x == ("__debug__" : Str)) = false := by decide)
    (he : starEach [e, .Name x p2] X.env = (false, eval e X.env) :: starEach [.Name x p2] X.env := by rfl) (he2 : starEach [.Name x p2] X.env = (false, eval (.Name x p2) X.env) :: starEach [] X.env := by rfl) (hpl : (backTo pos (starEach [.Name x p2] X.env)).any (·.1) = false := by rfl) :
    PV M W X (.Call (.Name "isinstance" p) [e, .Name x p2] [] pos) (eUn (fun d => fIsi T [d]) f) := by
  obtain ⟨t, et, qt⟩ := ha
  have h2 : PE X (.Name x p2) (tC (.ty T)) := pe_bltn hg2 hx hv (show RelV (.ty T) (.type T) from rfl) hn hdb
  refine ⟨_, pe_callB call_isi hg hm (by decide +kernel) (L2.pa_cons et (L2.pa_cons h2 L2.pa_nil he2) he) (by decide) (by decide) he hpl, ?_⟩
  refine Tr.bind (f2 := fun d ε => (fIsi T [d]).bind fun r => .ok (r, ε)) (t2 := fun v σ H1 (Q : VK) => rIsi X.K [v, .ty T] H1 Q) qt ?_
  intro d v σ G H ε s rd Q hp
  simp only [fIsi] at hp
  cases e1 : tyName d with
  | none => rw [e1] at hp; exact hp.elim
  | some t =>
    rw [e1] at hp
    simp only at hp
    cases e2 : kitB t T with
    | none => rw [e2] at hp; exact hp.elim
    | some b =>
      rw [e2] at hp
      exact ⟨v, .ty T, .type t, .type T, b, rfl, .ty T, tyx_of c.hK s.sub rd e1, kit_ty e2, post_ok hp s (rp_bl.mpr rfl)⟩
/-- len of a name whose list may be owned -/
@[reducible] def eLenV (i : Nat) : Ev → Res (D × Ev) := fun ε => (getAny ε i).bind fun d => (fLen [d]).bind fun n => .ok (n, ε)
theorem pv_lenV (c : CO M W k X) (i : Nat) {x : Str} {px p : Pos} (hm : X.mg "len" = none) (hN : X.N[i]? = some x := by rfl)
    (hv : Vis X.env.scope x := by first | exact Or.inl rfl | exact Or.inr (Or.inl rfl) | exact Or.inr (Or.inr rfl)) (hd : (x == ("__debug__" : Str)) = false := by decide) (hcd : (x == ("__classdict__" : Str)) = false := by decide)
    (hg : Gl X "len" := by rfl) (he : starEach [.Name x px] X.env = (false, eval (.Name x px) X.env) :: starEach [] X.env := by rfl) : PV M W X (.Call (.Name "len" p) [.Name x px] [] pos) (eLenV i) := by
  refine ⟨_, pe_callB (r := rLenAll M.F.K) (by rw [← c.hK]; exact call_lenAll) hg hm (by decide +kernel) (L2.pa_cons (pe_var hN hv hd hcd) L2.pa_nil he) (by decide) (by decide) he rfl, ?_⟩
  intro σ G H ε s Q hp
  simp only [eLenV] at hp
  cases e0 : getAny ε i with
  | stuck => rw [e0] at hp; exact hp.elim
  | err c => simp only [getAny] at e0; split at e0 <;> cases e0
  | ok d =>
    rw [e0] at hp
    obtain ⟨v, ev, r⟩ := s.any e0
    refine ⟨v, ev, ?_⟩
    cases d with
    | lst ds =>
      obtain ⟨a, vs, rfl, ha, l⟩ := r
      refine .inl ⟨a, vs, rfl, .inl (SqL.of ha), ?_⟩
      rw [← l.length]
      exact post_ok hp s (rp_int.mpr rfl)
    | tup ds =>
      obtain ⟨a, vs, rfl, ha, l⟩ := rpH_tup.mp r
      refine .inl ⟨a, vs, rfl, .inr (sqT_mono s.sub ha), ?_⟩
      rw [← l.length]
      exact post_ok hp s (rp_int.mpr rfl)
    | str z =>
      rw [rpH_str] at r; subst r
      simp only [fLen, Res.bind_ok] at hp
      split at hp
      · rename_i hz
        exact .inr ⟨z, rfl, line_big hz, post_ok hp s (rp_int.mpr rfl)⟩
      · exact hp.elim
    | _ => exact hp.elim
end
end PL
/-! PL, part e: slices. -/
namespace PL
open PySem PySem.Spec PyProof.Rows L2

/-! ### a tuple's slices in the model -/
def whole (lo : Int) (st : Int) (k n : Nat) : Bool := lo == 0 && st == 1 && k == n
section
variable {prog : Program} {w : World} {A : Around} {E : Value → Shared → Prop} {s : Shared}
theorem applied_any {sl : Addr} {vl vu vs : Value} {lo hi st : Option Int} {n : Nat} {Q : Int × Int × Nat → Shared → Prop} (hs : s.heap.IsSliceOf sl vl vu vs) (pl : IsPart vl lo) (pu : IsPart vu hi) (ps : IsPart vs st) (h0 : st ≠ some 0)
    (h : Q ((Builtin.Slice.sliceAdjust lo hi (st.getD 1) n).1, st.getD 1, Builtin.Slice.slicePlaces (Builtin.Slice.sliceAdjust lo hi (st.getD 1) n).1 (Builtin.Slice.sliceAdjust lo hi (st.getD 1) n).2 (st.getD 1)) s) :
    wpAny (model prog w) A (Builtin.Slice.sliceApplied (.ref sl) (pure (n : Int))) Q E s := by
  obtain ⟨os, hos, hcs, hds⟩ := id hs
  unfold Builtin.Slice.sliceApplied Builtin.Slice.sliceFields
  refine wpAny_bind (wpAny_bind (wpAny_field hos hds (x := vl) rfl (wpAny_bind (wpAny_field hos hds (x := vu) rfl (wpAny_bind (wpAny_field hos hds (x := vs) rfl (wpAny_pure ?_)))))))
  refine wpAny_bind (HT.slicePart_ ps ?_)
  have hz : ¬ ((st.getD 1 == (0 : Int)) = true) := by
    cases st with
    | none => decide
    | some c => intro q; exact h0 (by rw [show c = 0 from eq_of_beq q])
  rw [if_neg hz]
  exact wpAny_bind (HT.slicePart_ pl (wpAny_bind (HT.slicePart_ pu (wpAny_bind (wpAny_pure (wpAny_pure h))))))
theorem tup_slice {t sl : Addr} {items : Array Value} {vl vu vs : Value} {lo hi st : Option Int} {a : Int} {k : Nat} {Q : Value → Shared → Prop} (ht : IsTup s.heap t items) (hs : s.heap.IsSliceOf sl vl vu vs) (pl : IsPart vl lo) (pu : IsPart vu hi) (ps : IsPart vs st) (h0 : st ≠ some 0)
    (ha : (Builtin.Slice.sliceAdjust lo hi (st.getD 1) items.size).1 = a) (hk : Builtin.Slice.slicePlaces a (Builtin.Slice.sliceAdjust lo hi (st.getD 1) items.size).2 (st.getD 1) = k)
    (h1 : whole a (st.getD 1) k items.size = true → Q (.ref t) s)
    (h2 : whole a (st.getD 1) k items.size = false → Q (.ref s.heap.objs.size) { s with heap := s.heap.push { cls := .type "tuple", data := .seq ((List.range k).filterMap fun (m : Nat) => items[(a + (m : Int) * st.getD 1).toNat]?).toArray } })
    (hsz : k ≤ sizeLine) : wpAny (model prog w) A (getItem (.ref t) (.ref sl)) Q E s := by
  have hfit : sizeOk (.seq ((List.range k).filterMap fun (m : Nat) => items[(a + (m : Int) * st.getD 1).toNat]?).toArray) := by
    show (((List.range k).filterMap fun (m : Nat) => items[(a + (m : Int) * st.getD 1).toNat]?).toArray).size ≤ sizeLine
    rw [List.size_toArray]
    exact Nat.le_trans (List.length_filterMap_le _ _) (by rw [List.length_range]; exact hsz)
  obtain ⟨os, hos, hcs, hds⟩ := id hs
  have hTs : s.TypeIs (.ref sl) "slice" := ⟨os, hos, hcs⟩
  unfold getItem
  (try with_reducible refine wpAny_holding ?_); (first | refine wpAny_bind (wpAny_pure ?_) | skip); refine wpAny_bind (wpAny_sequenceKey ht.typeIs (by decide) ?_)
  refine wpAny_bind (wpAny_callSpecial?_slot (name := Str.ofString "__getitem__") ht.typeIs PyProof.Rows.slot_tuple_getitem (wpAny_call_entry PyProof.Rows.slot_tuple_getitem ht.typeIs entry_tuple_getitem ?_ (args_tuple_getitem _ _)))
  show wpAny _ _ (Builtin.Tuple.tupleItemsOf (.ref t) >>= _) _ _ s
  refine wpAny_bind (tupleItemsOf_ ht ?_); refine wpAny_bind (wpAny_typeOf hTs ?_); rw [if_pos (by decide)]; refine wpAny_bind (applied_any hs pl pu ps h0 ?_)
  rw [ha, hk]
  show wpAny _ _ (if (a == 0 && st.getD 1 == 1 && k == items.size) = true then _ else _) _ _ s
  by_cases hw : whole a (st.getD 1) k items.size = true
  · rw [if_pos (show (a == 0 && st.getD 1 == 1 && k == items.size) = true from hw)]
    have h := h1 hw
    obtain ⟨o, ho, hc, n, hd⟩ := id ht
    have hTt : s.TypeIs (.ref t) "tuple" := ⟨o, ho, hc⟩
    unfold Builtin.Tuple.tupleIsExact
    refine wpAny_bind (wpAny_bind (wpAny_typeOf hTt (wpAny_pure ?_)))
    rw [if_pos (by decide)]
    exact wpAny_bind (wpAny_rule (wpAny_pure ⟨_, rfl, wpAny_pure h⟩))
  · rw [if_neg (show ¬ (a == 0 && st.getD 1 == 1 && k == items.size) = true from hw)]
    have h := h2 (by simpa using hw)
    first
      | exact wpAny_bind (m := Builtin.Tuple.tupleExact _) (wpAny_newObj_type (wpAny_pure ⟨_, rfl, wpAny_pure h⟩) hfit)
      | exact wpAny_bind (m := Builtin.Tuple.tupleExact _) (wpAny_newObj_type (wpAny_bind (wpAny_pure (wpAny_pure ⟨_, rfl, wpAny_pure h⟩))) hfit)
      | exact wpAny_bind (wpAny_bind (m := Builtin.Tuple.tupleExact _) (wpAny_newObj_type (wpAny_pure (wpAny_pure ⟨_, rfl, wpAny_pure h⟩)) hfit))
      | exact wpAny_bind (wpAny_bind (m := Builtin.Tuple.tupleExact _) (wpAny_newObj_type (wpAny_pure ⟨_, rfl, wpAny_pure h⟩) hfit))
end

/-! ### parts of a slice -/
def RO : Hp → Option Int → Option Int → Prop := fun _ a b => a = b
def PO' (M : Fr) (W : WX) (X : Cx) (e : Option Expr) (f : Ev → Res (Option Int × Ev)) : Prop := ∃ t, PO X e t ∧ Tr M W RO t f
@[reducible, simp] def oN : Ev → Res (Option Int × Ev) := fun ε => .ok (none, ε)
@[reducible, simp] def asI (d : D) : Res Int := match d with
  | .int i => .ok i
  | _ => .stuck
@[reducible, simp] def oS (f : Ev → Res (D × Ev)) : Ev → Res (Option Int × Ev) := fun ε => (f ε).bind fun p => (asI p.1).bind fun i => .ok (some i, p.2)
def cutD (ds : List D) (lo hi : Option Int) : List D := (ds.drop (HT.sIx ds.length 0 lo)).take (HT.sIx ds.length ds.length hi - HT.sIx ds.length 0 lo)
@[simp] def dSl : D → Option Int → Option Int → Res D
  | .lst ds, lo, hi => .ok (.lst (cutD ds lo hi))
  | .tup ds, lo, hi => .ok (.tup (cutD ds lo hi))
  | _, _, _ => .stuck
def dSlN : D → Option Int → Option Int → Res (List D)
  | .lst ds, lo, hi => .ok (cutD ds lo hi)
  | _, _, _ => .stuck
@[reducible, simp] def eSl (f : Ev → Res (D × Ev)) (lo hi : Ev → Res (Option Int × Ev)) : Ev → Res (D × Ev) := fun ε =>
  (f ε).bind fun p => (lo p.2).bind fun q => (hi q.2).bind fun r => (dSl p.1 q.1 r.1).bind fun d => .ok (d, r.2)
@[reducible] def eSlN (f : Ev → Res (D × Ev)) (lo hi : Ev → Res (Option Int × Ev)) : Ev → Res (List D × Ev) := fun ε =>
  (f ε).bind fun p => (lo p.2).bind fun q => (hi q.2).bind fun r => (dSlN p.1 q.1 r.1).bind fun d => .ok (d, r.2)
theorem RpL.cut {F : Fx} {G : Hp} {ds : List D} {vs : List V} (l : RpL F G ds vs) (lo hi : Option Int) : RpL F G (cutD ds lo hi) (cutV vs lo hi) := by
  unfold cutD cutV
  rw [l.length]
  exact (l.drop _).take _
def rSlAll (K : PySem.W.Frag) : V → Option Int → Option Int → Hp → VK → Prop := fun x lo hi H Q => rSlL K x lo hi H Q ∨ rSlA K x lo hi H Q
theorem sl_all {X : Cx} : SlR X (rSlAll X.K) := sl_list.or sl_tupA
section
variable {M : Fr} {W : WX} {X : Cx} {k : Nat} {a b e : Expr} {es rest : List Expr} {fa fb f : Ev → Res (D × Ev)} {g : Ev → Res (List D × Ev)} {pos : Pos}
theorem po_none' : PO' M W X none oN := ⟨_, po_none, fun σ G H ε s Q hp => hp none G H s (Step.refl ..) rfl⟩
theorem po_some' (ha : PV M W X a fa) : PO' M W X (some a) (oS fa) := by
  obtain ⟨t, et, qt⟩ := ha
  refine ⟨_, po_some et, Tr.bind (f2 := fun d ε => (asI d).bind fun i => .ok (some i, ε)) (t2 := fun v σ H1 (Q : Option Int → Hp → Prop) => ∃ i, v = .int i ∧ Q (some i) H1) qt ?_⟩
  intro d v σ G H ε s rd Q hp
  cases d with
  | int i => exact ⟨i, rp_int.mp rd, hp (some i) G H s (Step.refl ..) rfl⟩
  | _ => exact hp.elim
/-- the three parts, then the slicing -/
theorem tr_parts {α : Type} {te : TE} {tl th : TO} {fl fh : Ev → Res (Option Int × Ev)} (he : Tr M W (Rp M.F) te f) (hl : Tr M W RO tl fl) (hh : Tr M W RO th fh) {r : V → Option Int → Option Int → Hp → VK → Prop}
    {P : St → Hp → Hp → Ev → Res (α × Ev) → VK → Prop} {op : D → Option Int → Option Int → Res α}
    (hst : ∀ σ G H ε Q, P σ G H ε .stuck Q → False) (herr : ∀ σ G H ε c Q, P σ G H ε (.err c) Q → ErrOk M W G H (Own σ ε) c) (hsh : ∀ {σ G H ε G1 H1 ε1 x Q}, SR M G1 H1 σ ε1 → Step G H (Own σ ε) G1 H1 (Own σ ε1) → P σ G H ε x Q → P σ G1 H1 ε1 x Q)
    (ho : ∀ d v lo hi σ G H ε Q, SR M G H σ ε → Rp M.F G d v → P σ G H ε ((op d lo hi).bind fun x => .ok (x, ε)) Q → r v lo hi H Q) (σ : St) (G H : Hp) (ε : Ev) (s : SR M G H σ ε) (Q : VK)
    (hp : P σ G H ε ((f ε).bind fun p => (fl p.2).bind fun q => (fh q.2).bind fun w => (op p.1 q.1 w.1).bind fun x => .ok (x, w.2)) Q) : tSl r te tl th σ H Q := by
  refine he σ G H ε s _ ?_
  cases e1 : f ε with
  | stuck => rw [e1] at hp; exact (hst _ _ _ _ _ hp).elim
  | err c => rw [e1] at hp; exact herr _ _ _ _ _ _ hp
  | ok p =>
    rw [e1] at hp
    intro v G1 H1 s1 st1 rv
    refine hl σ G1 H1 p.2 s1 _ ?_
    have hp1 : P σ G1 H1 p.2 ((fl p.2).bind fun q => (fh q.2).bind fun w => (op p.1 q.1 w.1).bind fun x => .ok (x, w.2)) Q := hsh s1 st1 hp
    cases e2 : fl p.2 with
    | stuck => rw [e2] at hp1; exact (hst _ _ _ _ _ hp1).elim
    | err c => rw [e2] at hp1; exact herr _ _ _ _ _ _ hp1
    | ok q =>
      rw [e2] at hp1
      intro lo G2 H2 s2 st2 rl
      simp only [RO] at rl
      subst rl
      refine hh σ G2 H2 q.2 s2 _ ?_
      have hp2 : P σ G2 H2 q.2 ((fh q.2).bind fun w => (op p.1 q.1 w.1).bind fun x => .ok (x, w.2)) Q := hsh s2 st2 hp1
      cases e3 : fh q.2 with
      | stuck => rw [e3] at hp2; exact (hst _ _ _ _ _ hp2).elim
      | err c => rw [e3] at hp2; exact herr _ _ _ _ _ _ hp2
      | ok w =>
        rw [e3] at hp2
        intro hi G3 H3 s3 st3 rh
        simp only [RO] at rh
        subst rh
        exact ho p.1 v q.1 w.1 σ G3 H3 w.2 Q s3 ((rv.mono st2.gg).mono st3.gg) (hsh s3 st3 hp2)
theorem pv_slice (c : CO M W k X) {lo hi : Option Expr} {fl fh : Ev → Res (Option Int × Ev)} {p2 : Pos} (he : PV M W X e f) (hl : PO' M W X lo fl) (hh : PO' M W X hi fh) : PV M W X (.Subscript e (.Slice lo hi none p2) pos) (eSl f fl fh) := by
  obtain ⟨te, ee, qe⟩ := he
  obtain ⟨tl, el, ql⟩ := hl
  obtain ⟨th, eh, qh⟩ := hh
  refine ⟨_, pe_slice (r := rSlAll M.F.K) (by rw [← c.hK]; exact sl_all) ee el eh, fun σ G H ε s Q hp => ?_⟩
  refine tr_parts (op := dSl) (P := fun σ G H ε x Q => Post M W σ G H ε (Rp M.F) x Q) qe ql qh (fun _ _ _ _ _ h => h) (fun _ _ _ _ _ _ h => h) (fun s1 st h => Post.shift s1 st h) ?_ σ G H ε s Q hp
  intro d v lo hi σ G H ε Q s rd hp
  cases d with
  | lst ds =>
    obtain ⟨a, vs, rfl, ha, l⟩ := rp_lst.mp rd
    refine .inl ⟨a, vs, rfl, SqL.of (s.sub _ _ ha), fun p hn => ?_⟩
    exact post_new hp s hn (fun ps z => by cases z) (rp_lst.mpr ⟨p, _, rfl, upd_same, (l.cut lo hi).mono (up_mono (s.gnone hn))⟩)
  | tup ds =>
    obtain ⟨a, vs, rfl, ha, l⟩ := rp_tup.mp rd
    refine .inr ⟨a, vs, rfl, sqT_mono s.sub ha, fun z => ?_, fun _ p hn => ?_⟩
    · have e1 : cutD ds lo hi = ds := by
        have hl : ds.length = vs.length := l.length
        unfold cutD
        rw [hl, z.1, z.2, List.drop_zero, Nat.sub_zero, ← hl, List.take_length]
      have hp' : Post M W σ G H ε (Rp M.F) (.ok (.tup (cutD ds lo hi), ε)) Q := hp
      rw [e1] at hp'
      exact post_ok hp' s (rp_tup.mpr ⟨a, vs, rfl, ha, l⟩)
    · exact post_new hp s hn (fun ps z => by cases z) (rp_tup.mpr ⟨p, _, rfl, .inl (.inl upd_same), (l.cut lo hi).mono (up_mono (s.gnone hn))⟩)
  | _ => exact hp.elim
theorem pn_slice (c : CO M W k X) {lo hi : Option Expr} {fl fh : Ev → Res (Option Int × Ev)} {p2 : Pos} (he : PV M W X e f) (hl : PO' M W X lo fl) (hh : PO' M W X hi fh) : PN M W X (.Subscript e (.Slice lo hi none p2) pos) (eSlN f fl fh) := by
  obtain ⟨te, ee, qe⟩ := he
  obtain ⟨tl, el, ql⟩ := hl
  obtain ⟨th, eh, qh⟩ := hh
  refine ⟨_, pe_slice (r := rSlAll M.F.K) (by rw [← c.hK]; exact sl_all) ee el eh, fun σ G H ε s Q hp => ?_⟩
  refine tr_parts (op := dSlN) (P := fun σ G H ε x Q => PostN M W σ G H ε x Q) qe ql qh (fun _ _ _ _ _ h => h) (fun _ _ _ _ _ _ h => h) (fun s1 st h => PostN.shift s1 st h) ?_ σ G H ε s Q hp
  intro d v lo hi σ G H ε Q s rd hp
  cases d with
  | lst ds =>
    obtain ⟨a, vs, rfl, ha, l⟩ := rp_lst.mp rd
    exact .inl ⟨a, vs, rfl, SqL.of (s.sub _ _ ha), fun p hn => postN_new hp s hn (l.cut lo hi)⟩
  | _ => exact hp.elim
end

/-! ### backwards: e[lo:hi:-1] -/
def bIxL (lo hi : Option Int) (n : Nat) : List Nat := sliceRange (sliceBounds lo hi (some (-1)) n).1 (sliceBounds lo hi (some (-1)) n).2.1 (-1)
def bLo (lo hi : Option Int) (n : Nat) : Int := (Builtin.Slice.sliceAdjust lo hi (-1) n).1
def bCount (lo hi : Option Int) (n : Nat) : Nat := Builtin.Slice.slicePlaces (bLo lo hi n) (Builtin.Slice.sliceAdjust lo hi (-1) n).2 (-1)
def bIxT (lo hi : Option Int) (n : Nat) : List Nat := (List.range (bCount lo hi n)).map fun (m : Nat) => (bLo lo hi n + (m : Int) * (-1)).toNat
def pick {α : Type} (ix : List Nat) (xs : List α) : List α := ix.filterMap (xs[·]?)
theorem RpL.pick {F : Fx} {G : Hp} {ds : List D} {vs : List V} (l : RpL F G ds vs) : ∀ ix : List Nat, RpL F G (PL.pick ix ds) (PL.pick ix vs)
  | [] => RpL.nil
  | i :: ix => by
    unfold PL.pick
    have ih := l.pick ix
    unfold PL.pick at ih
    rw [List.filterMap_cons, List.filterMap_cons]
    cases e : ds[i]? with
    | none =>
      have e2 : vs[i]? = none := by
        rw [List.getElem?_eq_none_iff, ← l.length]
        exact List.getElem?_eq_none_iff.mp e
      rw [e2]
      exact ih
    | some d =>
      obtain ⟨v, e2, r⟩ := l.get e
      rw [e2]
      exact RpL.cons r ih
theorem vals_pick {xs : List V} {us : List Value} (l : Vals xs us) : ∀ ix : List Nat, Vals (pick ix xs) (pick ix us)
  | [] => .nil
  | i :: ix => by
    unfold pick
    have ih := vals_pick l ix
    unfold pick at ih
    rw [List.filterMap_cons, List.filterMap_cons]
    cases e : xs[i]? with
    | none => rw [l.none_of e]; exact ih
    | some d =>
      obtain ⟨v, e2, r⟩ := l.get e
      rw [e2]
      exact .cons r ih
theorem pick_len {α : Type} (ix : List Nat) (xs : List α) : (pick ix xs).length ≤ ix.length := List.length_filterMap_le _ _
def dBack : D → Option Int → Option Int → Res D
  | .lst ds, lo, hi => if (bIxL lo hi ds.length).length ≤ 1000000 ∧ ds.length ≤ 1000000 then .ok (.lst (pick (bIxL lo hi ds.length) ds)) else .stuck
  | .tup ds, lo, hi => if bCount lo hi ds.length ≤ 1000000 then .ok (.tup (pick (bIxT lo hi ds.length) ds)) else .stuck
  | _, _, _ => .stuck
@[reducible] def eBack (f : Ev → Res (D × Ev)) (lo hi : Ev → Res (Option Int × Ev)) : Ev → Res (D × Ev) := fun ε =>
  (f ε).bind fun p => (lo p.2).bind fun q => (hi q.2).bind fun r => (dBack p.1 q.1 r.1).bind fun d => .ok (d, r.2)
def rBack (K : PySem.W.Frag) : V → Option Int → Option Int → Hp → VK → Prop := fun x lo hi H Q =>
  (∃ a xs, x = .ref a ∧ SqL K H a xs ∧ (bIxL lo hi xs.length).length ≤ 1000000 ∧ ∀ p, H p = none → Q (.ref p) (upd H p (.lst (pick (bIxL lo hi xs.length) xs)))) ∨
  ∃ a xs, x = .ref a ∧ SqT K H a xs ∧ bCount lo hi xs.length ≤ 1000000 ∧ ∀ p, H p = none → Q (.ref p) (upd H p (.tup (pick (bIxT lo hi xs.length) xs)))
theorem pe_back {X : Cx} {e : Expr} {te : TE} {lo hi : Option Expr} {tl th : TO} {k : Nat} {p1 p2 p3 pos : Pos} (he : PE X e te) (hl : PO X lo tl) (hh : PO X hi th) :
    PE X (.Subscript e (.Slice lo hi (some (.UnaryOp .USub (.Constant (.int 1) k p1) p2)) p3) pos) (tSl (rBack X.K) te tl th) := by
  refine ⟨fun pins s σ H Q I h => ?_⟩
  refine Subscript_ (thn (he.run pins s σ H _ I h) fun v s1 ⟨x, H1, I1, r1, q1⟩ => ?_)
  have hst : PO X (some (.UnaryOp .USub (.Constant (.int 1) k p1) p2)) (tPart (tUn (rU fun i => .int (-i)) (tC (.int 1)))) := po_some (pe_un un_neg pe_int)
  refine wpAny_Slice (thn (hl.run pins s1 σ H1 _ I1 q1) fun vl s2 ⟨l, H2, I2, pl, q2⟩ => ?_)
  refine thn (hh.run pins s2 σ H2 _ I2 q2) fun vu s3 ⟨u, H3, I3, pu, q3⟩ => ?_
  refine thn (hst.run pins s3 σ H3 (fun o H4 => o = some (-1) ∧ H4 = H3) I3 ⟨1, rfl, -1, rfl, rfl, rfl⟩) fun vs s4 ⟨o, H4, I4, ps, eo, e4⟩ => ?_
  subst eo e4
  have I5 : Inv X pins σ H4 { s4 with heap := s4.heap.push { cls := .type "slice", data := .fields #[vl, vu, vs] } } := I4.kept (t' := s4.toks) fun b ob q => Heap.get?_push_of_some _ q
  rcases q3 with ⟨a, xs, rfl, hx, hz0, q⟩ | ⟨a, xs, rfl, hx, hz0, q⟩
  · cases r1
    obtain ⟨its, r, ht, hz⟩ := I5.list hx
    have hlen := r.length
    refine tail_any (ops := [.ref a, .ref s4.heap.objs.size]) ht.isList.typeIs (PySem.slot_list_getitem.lookup) ?_ (by with_unfolding_all rfl)
    refine wpAny_getItem_list_slice ht.isList (Heap.IsSliceOf.new _ vl vu vs) pl pu ps (by decide) ?_ (by rw [List.size_toArray]; omega)
    have e1 : slicePick its.toArray l u (some (-1)) = (pick (bIxL l u xs.length) its).toArray := by
      unfold slicePick pick bIxL
      rw [List.size_toArray, ← hlen]
      congr 2
      funext i
      simp
    rw [e1]
    refine ⟨.ref _, _, I5.laid (t' := s4.toks) (o := .lst (pick (bIxL l u xs.length) xs)) (fun b ob q => Heap.get?_push_of_some _ q) (Nat.le_refl _) ?_, rfl, q _ (I5.hok.fresh (Nat.le_refl _))⟩
    exact ⟨line_big (Nat.le_trans (pick_len _ _) hz0), _, 0, vals_pick r _, Heap.get?_push_size _ rfl⟩
  · cases r1
    obtain ⟨its, r, ht, hz⟩ := I5.tuple hx
    have hlen := r.length
    refine tail_any (ops := [.ref a, .ref s4.heap.objs.size]) ht.typeIs (PyProof.Rows.slot_tuple_getitem.lookup) ?_ (by with_unfolding_all rfl)
    have hsz : its.toArray.size = xs.length := by rw [List.size_toArray, hlen]
    refine tup_slice (a := bLo l u xs.length) (k := bCount l u xs.length) ht (Heap.IsSliceOf.new _ vl vu vs) pl pu ps (by decide) (by rw [hsz]; rfl) (by rw [hsz]; rfl) (fun z => ?_) (fun _ => ?_) (line_big hz0)
    · simp [whole] at z
    · have e1 : ((List.range (bCount l u xs.length)).filterMap fun (m : Nat) => its.toArray[(bLo l u xs.length + (m : Int) * (some (-1 : Int)).getD 1).toNat]?).toArray = (pick (bIxT l u xs.length) its).toArray := by
        unfold pick bIxT
        rw [List.filterMap_map]
        congr 2
        funext i
        simp
      rw [e1]
      refine ⟨.ref _, _, I5.laid (t' := s4.toks) (o := .tup (pick (bIxT l u xs.length) xs)) (fun b ob q => Heap.get?_push_of_some _ q) (Nat.le_refl _) ?_, rfl, q _ (I5.hok.fresh (Nat.le_refl _))⟩
      refine ⟨line_big (Nat.le_trans (pick_len _ _) ?_), _, vals_pick r _, IsTup.new _ _⟩
      unfold bIxT
      rw [List.length_map, List.length_range]
      exact hz0
section
variable {M : Fr} {W : WX} {X : Cx} {k : Nat} {a b e : Expr} {es rest : List Expr} {fa fb f : Ev → Res (D × Ev)} {g : Ev → Res (List D × Ev)} {pos : Pos}
theorem pv_back (c : CO M W k X) {lo hi : Option Expr} {fl fh : Ev → Res (Option Int × Ev)} {j : Nat} {p1 p2 p3 : Pos} (he : PV M W X e f) (hl : PO' M W X lo fl) (hh : PO' M W X hi fh) :
    PV M W X (.Subscript e (.Slice lo hi (some (.UnaryOp .USub (.Constant (.int 1) j p1) p2)) p3) pos) (eBack f fl fh) := by
  obtain ⟨te, ee, qe⟩ := he
  obtain ⟨tl, el, ql⟩ := hl
  obtain ⟨th, eh, qh⟩ := hh
  refine ⟨_, pe_back ee el eh, fun σ G H ε s Q hp => ?_⟩
  refine tr_parts (op := dBack) (P := fun σ G H ε x Q => Post M W σ G H ε (Rp M.F) x Q) qe ql qh (fun _ _ _ _ _ h => h) (fun _ _ _ _ _ _ h => h) (fun s1 st h => Post.shift s1 st h) ?_ σ G H ε s Q hp
  intro d v lo hi σ G H ε Q s rd hp
  cases d with
  | lst ds =>
    obtain ⟨a, vs, rfl, ha, l⟩ := rp_lst.mp rd
    simp only [dBack] at hp
    split at hp
    · rename_i hz
      rw [l.length] at hp hz
      refine .inl ⟨a, vs, rfl, SqL.of (s.sub _ _ ha), hz.1, fun p hn => ?_⟩
      exact post_new hp s hn (fun ps z => by cases z) (rp_lst.mpr ⟨p, _, rfl, upd_same, (l.pick _).mono (up_mono (s.gnone hn))⟩)
    · exact hp.elim
  | tup ds =>
    obtain ⟨a, vs, rfl, ha, l⟩ := rp_tup.mp rd
    simp only [dBack] at hp
    split at hp
    · rename_i hz
      rw [l.length] at hp hz
      refine .inr ⟨a, vs, rfl, by rw [c.hK]; exact sqT_mono s.sub ha, hz, fun p hn => ?_⟩
      exact post_new hp s hn (fun ps z => by cases z) (rp_tup.mpr ⟨p, _, rfl, .inl (.inl upd_same), (l.pick _).mono (up_mono (s.gnone hn))⟩)
    · exact hp.elim
  | _ => exact hp.elim
end
end PL
/-! PL, part f: what is walked, targets, comprehensions. -/
namespace PL
open PySem PySem.Spec PyProof.Rows L2

/-! ### what is walked -/
structure HG (F : Fx) (G H : Hp) : Prop where
  sub : ∀ q o, G q = some o → H q = some o
  ntb : ∀ q ps, G q ≠ some (.tbl ps)
  tabs : LamX.Tabs F.T H
theorem SR.hg {M : Fr} {G H : Hp} {σ : St} {ε : Ev} (s : SR M G H σ ε) : HG M.F G H := ⟨s.sub, s.ntb, s.tabs⟩
theorem Grow.trans {G H G1 H1 G2 H2 : Hp} (a : Grow G H G1 H1) (b : Grow G1 H1 G2 H2) : Grow G H G2 H2 :=
  ⟨fun q o h => b.gg q o (a.gg q o h), fun q o h n => b.hh q o (a.hh q o h n) n, fun q h => a.hs q (b.hs q h), fun q o h => (b.gn q o h).elim (a.gn q o) fun z => .inr (a.hs q z)⟩
theorem HG.new {F : Fx} {G H : Hp} (s : HG F G H) {p : Addr} {o : HO} (hp : H p = none) (ho : ∀ ps, o ≠ .tbl ps) : Grow G H (upd G p o) (upd H p o) ∧ HG F (upd G p o) (upd H p o) := by
  have gp : G p = none := by
    cases q : G p with
    | none => rfl
    | some u => rw [s.sub p u q] at hp; cases hp
  refine ⟨⟨fun q u h => by rw [upd_ne (ne_of_none h gp)]; exact h, fun q u h _ => by rw [upd_ne (ne_of_none h hp)]; exact h, fun q h => ?_, fun q u h => ?_⟩, ⟨fun q u h => ?_, fun q ps h => ?_, s.tabs.ext fun q u h => by rw [upd_ne (ne_of_none h hp)]; exact h⟩⟩
  · unfold upd at h
    split at h
    · cases h
    · exact h
  · unfold upd at h
    split at h
    · rename_i e; subst e; exact .inr hp
    · exact .inl h
  · unfold upd at h ⊢
    split
    · rename_i e; rw [if_pos e] at h; exact h
    · rename_i e; rw [if_neg e] at h; exact s.sub q u h
  · unfold upd at h
    split at h
    · exact ho ps (Option.some.inj h)
    · exact s.ntb q ps h

def ItOk (F : Fx) (J : It) (G1 : Hp) (ds : List D) : Prop := ∀ (i : Nat) (G H : Hp), HG F G H → (∀ q o, G1 q = some o → G q = some o) →
  (∀ d, ds[i]? = some d → J.go i H ∧ ∀ x H', J.yld i H x H' → ∃ G', Grow G H G' H' ∧ HG F G' H' ∧ Rp F G' d x) ∧ (ds.length ≤ i → J.stop i H)
def PIt (M : Fr) (W : WX) (X : Cx) (tg it : Expr) (f : Ev → Res (List D × Ev)) : Prop := ∃ wi, PI X tg it wi ∧ Tr M W (fun G ds J => ItOk M.F J G ds) wi f

theorem pi_or {X : Cx} {tg it : Expr} {w1 w2 : TI} (h1 : PI X tg it w1) (h2 : PI X tg it w2) : PI X tg it (fun σ H R => w1 σ H R ∨ w2 σ H R) :=
  ⟨fun pins s σ H R I h => h.elim (h1.run pins s σ H R I) (h2.run pins s σ H R I)⟩
theorem itOk_list {F : Fx} {K : PySem.W.Frag} {G1 : Hp} {a : Addr} {vs : List V} {ds : List D} (hg : ∀ G H, HG F G H → (∀ q o, G1 q = some o → G q = some o) → ∀ ys, SqL K H a ys → ys = vs) (ha : G1 a = some (.lst vs)) (l : RpL F G1 ds vs) : ItOk F (Itl K a) G1 ds := by
  intro i G H s g1
  have hs : SqL K H a vs := SqL.of (s.sub _ _ (g1 _ _ ha))
  refine ⟨fun d e => ?_, fun e => ⟨vs, hs, by rw [← l.length]; exact e⟩⟩
  obtain ⟨v, e1, r⟩ := l.get e
  refine ⟨⟨vs, v, hs, e1⟩, fun x H' y => ?_⟩
  obtain ⟨rfl, y⟩ := y
  have ex := y vs hs
  rw [e1] at ex
  cases ex
  exact ⟨G, Grow.refl _ _, s, r.mono g1⟩
@[reducible, simp] def dSeq : D → Res (List D)
  | .lst ds => .ok ds
  | .tup ds => .ok ds
  | _ => .stuck
@[reducible, simp] def iSeq (f : Ev → Res (D × Ev)) : Ev → Res (List D × Ev) := fun ε => (f ε).bind fun p => (dSeq p.1).bind fun ds => .ok (ds, p.2)
section
variable {M : Fr} {W : WX} {X : Cx} {k : Nat} {tg a b e : Expr} {es rest : List Expr} {fa fb f : Ev → Res (D × Ev)} {g : Ev → Res (List D × Ev)} {pos : Pos}
theorem pit_seq (c : CO M W k X) (ha : PV M W X e f) : PIt M W X tg e (iSeq f) := by
  obtain ⟨t, et, q⟩ := ha
  refine ⟨_, pi_or (pi_list et) (pi_tup et), fun σ G H ε s Q hp => ?_⟩
  cases e1 : f ε with
  | stuck => simp only [iSeq, e1] at hp; exact hp.elim
  | err cc =>
    refine .inl (q σ G H ε s _ ?_)
    simp only [iSeq, e1] at hp
    rw [e1]; exact hp
  | ok p =>
    obtain ⟨d, ε1⟩ := p
    cases d with
    | lst ds =>
      refine .inl (q σ G H ε s _ ?_)
      simp only [iSeq, e1, Res.bind_ok, dSeq] at hp
      rw [e1]
      intro v G1 H1 s1 st1 r
      obtain ⟨a, vs, rfl, ha, l⟩ := rp_lst.mp r
      refine ⟨a, rfl, ⟨vs, SqL.of (s1.sub _ _ ha)⟩, hp _ G1 H1 s1 st1 ?_⟩
      intro i G2 H2 s2 g2
      have hs : SqL X.K H2 a vs := SqL.of (s2.sub _ _ (g2 _ _ ha))
      refine ⟨fun d e => ?_, fun e => ⟨vs, hs, by rw [← l.length]; exact e⟩⟩
      obtain ⟨v, e1, r⟩ := l.get e
      refine ⟨⟨vs, v, hs, e1⟩, fun x H' y => ?_⟩
      obtain ⟨rfl, y⟩ := y
      have ex := y vs hs
      rw [e1] at ex
      cases ex
      exact ⟨G2, Grow.refl _ _, s2, r.mono g2⟩
    | tup ds =>
      refine .inr (q σ G H ε s _ ?_)
      simp only [iSeq, e1, Res.bind_ok, dSeq] at hp
      rw [e1]
      intro v G1 H1 s1 st1 r
      obtain ⟨a, vs, rfl, ha, l⟩ := rp_tup.mp r
      rw [← c.hK] at ha
      refine ⟨a, rfl, ⟨vs, sqT_mono s1.sub ha⟩, hp _ G1 H1 s1 st1 ?_⟩
      intro i G2 H2 s2 g2
      have hs : SqT X.K H2 a vs := sqT_mono s2.sub (sqT_mono g2 ha)
      refine ⟨fun d e => ?_, fun e => ⟨vs, hs, by rw [← l.length]; exact e⟩⟩
      obtain ⟨v, e1, r⟩ := l.get e
      refine ⟨⟨vs, v, hs, e1⟩, fun x H' y => ?_⟩
      obtain ⟨rfl, y⟩ := y
      have ex := y vs hs
      rw [e1] at ex
      cases ex
      exact ⟨G2, Grow.refl _ _, s2, r.mono g2⟩
    | _ => simp only [iSeq, e1, Res.bind_ok, dSeq] at hp; exact hp.elim

def rgD (lo : Int) (n : Nat) : List D := (List.range n).map fun (i : Nat) => D.int (lo + i)
def fRange : List D → Res (List D)
  | [.int j] => if Nat.ble j.natAbs 1000000000 = true then .ok (rgD 0 j.toNat) else .stuck
  | [.int i, .int j] => if (Nat.ble i.natAbs 1000000000 && Nat.ble j.natAbs 1000000000) = true then .ok (rgD i (j - i).toNat) else .stuck
  | _ => .stuck
theorem itOk_range {F : Fx} {G : Hp} (lo : Int) (n : Nat) : ItOk F (Itr lo n) G (rgD lo n) := by
  intro i G H s g1
  unfold rgD
  refine ⟨fun d e => ?_, fun e => by rw [List.length_map, List.length_range] at e; exact e⟩
  rw [List.getElem?_map] at e
  have hi : i < n := by
    cases q : (List.range n)[i]? with
    | none => rw [q] at e; cases e
    | some j =>
      have := (List.getElem?_eq_some_iff.mp q).1
      rwa [List.length_range] at this
  rw [List.getElem?_range hi] at e
  cases e
  refine ⟨hi, fun x H' y => ?_⟩
  obtain ⟨rfl, rfl⟩ := y
  exact ⟨G, Grow.refl _ _, s, rp_int.mpr rfl⟩
@[reducible, simp] def iCall (g : List D → Res (List D)) (fs : Ev → Res (List D × Ev)) : Ev → Res (List D × Ev) := fun ε => (fs ε).bind fun p => (g p.1).bind fun ds => .ok (ds, p.2)
theorem pit_range1 {p : Pos} {fs} (hm : X.mg "range" = none) (ha : PA' M W X [e] fs) (hg : Gl X "range" := by rfl) (hs : starEach [e] X.env = [(false, eval e X.env)] := by rfl) : PIt M W X tg (.Call (.Name "range" p) [e] [] pos) (iCall fRange fs) := by
  obtain ⟨⟨t, et, qt⟩, hl⟩ := ha
  refine ⟨_, pi_range1 hg hm et hs, fun σ G H ε s Q hp => ?_⟩
  refine qt σ G H ε s _ ?_
  simp only [iCall] at hp
  cases e1 : fs ε with
  | stuck => rw [e1] at hp; exact hp
  | err c => rw [e1] at hp; exact hp
  | ok p =>
    rw [e1] at hp
    intro vs G1 H1 s1 st1 rs
    simp only [Res.bind_ok] at hp
    unfold fRange at hp
    split at hp
    · rename_i j ej
      rw [ej] at rs
      obtain ⟨v, rfl, r⟩ := rpL1 rs
      rw [rp_int] at r; subst r
      split at hp
      · rename_i hj
        replace hj := Nat.ble_eq.mp hj
        refine ⟨j, rfl, by omega, by omega, ?_⟩
        exact hp _ G1 H1 s1 st1 (itOk_range 0 _)
      · exact hp.elim
    · rename_i i j ej
      rw [ej] at rs
      obtain ⟨v, w, rfl, r, r2⟩ := rpL2 rs
      have := hl _ _ e1
      rw [ej] at this
      simp at this
    · exact hp.elim
theorem pit_range2 {e2 : Expr} {p : Pos} {fs} (hm : X.mg "range" = none) (ha : PA' M W X [e, e2] fs) (hg : Gl X "range" := by rfl) (hs : starEach [e, e2] X.env = [(false, eval e X.env), (false, eval e2 X.env)] := by rfl) (hs2 : starEach [e2] X.env = [(false, eval e2 X.env)] := by rfl) : PIt M W X tg (.Call (.Name "range" p) [e, e2] [] pos) (iCall fRange fs) := by
  obtain ⟨⟨t, et, qt⟩, hl⟩ := ha
  refine ⟨_, pi_range2 hg hm et hs hs2, fun σ G H ε s Q hp => ?_⟩
  refine qt σ G H ε s _ ?_
  simp only [iCall] at hp
  cases e1 : fs ε with
  | stuck => rw [e1] at hp; exact hp
  | err c => rw [e1] at hp; exact hp
  | ok p =>
    rw [e1] at hp
    intro vs G1 H1 s1 st1 rs
    simp only [Res.bind_ok] at hp
    unfold fRange at hp
    split at hp
    · rename_i j ej
      have := hl _ _ e1
      rw [ej] at this
      simp at this
    · rename_i i j ej
      rw [ej] at rs
      obtain ⟨v, w, rfl, r, r2⟩ := rpL2 rs
      rw [rp_int] at r r2; subst r r2
      split at hp
      · rename_i hj
        simp only [Bool.and_eq_true, Nat.ble_eq] at hj
        refine ⟨i, j, rfl, ⟨by omega, by omega, by omega, by omega⟩, ?_⟩
        exact hp _ G1 H1 s1 st1 (itOk_range i _)
      · exact hp.elim
    · exact hp.elim

/-! enumerate, zip -/
def enumD : Nat → List D → List D
  | _, [] => []
  | i, d :: ds => .tup [.int i, d] :: enumD (i + 1) ds
theorem enumD_get : ∀ (ds : List D) (n i : Nat) (x : D), (enumD n ds)[i]? = some x → ∃ d, ds[i]? = some d ∧ x = .tup [.int ((n + i : Nat) : Int), d]
  | [], n, i, x, e => by simp [enumD] at e
  | d :: ds, n, 0, x, e => by simp [enumD] at e; exact ⟨d, rfl, e.symm⟩
  | d :: ds, n, i + 1, x, e => by
    simp only [enumD, List.getElem?_cons_succ] at e
    obtain ⟨d', e1, e2⟩ := enumD_get ds (n + 1) i x e
    exact ⟨d', by simpa using e1, by rw [e2, show n + 1 + i = n + (i + 1) by omega]⟩
theorem enumD_len : ∀ (ds : List D) (n : Nat), (enumD n ds).length = ds.length
  | [], _ => rfl
  | d :: ds, n => by simp [enumD, enumD_len ds (n + 1)]
def zipD : List D → List D → List D
  | a :: as, b :: bs => .tup [a, b] :: zipD as bs
  | _, _ => []
theorem zipD_get : ∀ (as bs : List D) (i : Nat) (x : D), (zipD as bs)[i]? = some x → ∃ a b, as[i]? = some a ∧ bs[i]? = some b ∧ x = .tup [a, b]
  | [], _, i, x, e => by simp [zipD] at e
  | _ :: _, [], i, x, e => by simp [zipD] at e
  | a :: as, b :: bs, 0, x, e => by simp [zipD] at e; exact ⟨a, b, rfl, rfl, e.symm⟩
  | a :: as, b :: bs, i + 1, x, e => by
    simp only [zipD, List.getElem?_cons_succ] at e
    obtain ⟨a', b', e1, e2, e3⟩ := zipD_get as bs i x e
    exact ⟨a', b', by simpa using e1, by simpa using e2, e3⟩
theorem zipD_len : ∀ (as bs : List D), (zipD as bs).length = min as.length bs.length
  | [], _ => by simp [zipD]
  | _ :: _, [] => by simp [zipD]
  | a :: as, b :: bs => by simp [zipD, zipD_len as bs, Nat.succ_min_succ]
/-- a new pair of known things -/
theorem new_pair {F : Fx} {G H : Hp} (s : HG F G H) {T : Addr} {d e : D} {x y : V} (hT : H T = none) (r1 : Rp F G d x) (r2 : Rp F G e y) :
    ∃ G', Grow G H G' (upd H T (.tup [x, y])) ∧ HG F G' (upd H T (.tup [x, y])) ∧ Rp F G' (.tup [d, e]) (.ref T) := by
  obtain ⟨g, h⟩ := s.new (o := .tup [x, y]) hT (fun ps z => by cases z)
  exact ⟨_, g, h, rp_tup.mpr ⟨T, _, rfl, .inl (.inl upd_same), RpL.cons (r1.mono g.gg) (RpL.cons (r2.mono g.gg) RpL.nil)⟩⟩
def fEnumL : List D → Res (List D)
  | [.lst ds] => .ok (enumD 0 ds)
  | _ => .stuck
theorem pit_enumL (c : CO M W k X) {p tpos : Pos} {elts : List Expr} {kk : Nat} {fs} (hm : X.mg "enumerate" = none) (ha : PA' M W X [e] fs) (hg : Gl X "enumerate" := by rfl) (hs : starEach [e] X.env = [(false, eval e X.env)] := by rfl) :
    PIt M W X (.Tuple elts kk tpos) (.Call (.Name "enumerate" p) [e] [] pos) (iCall fEnumL fs) := by
  obtain ⟨⟨t, et, qt⟩, hl⟩ := ha
  refine ⟨_, pi_enum hg hm et hs, fun σ G H ε s Q hp => ?_⟩
  refine qt σ G H ε s _ ?_
  simp only [iCall] at hp
  cases e1 : fs ε with
  | stuck => rw [e1] at hp; exact hp
  | err c => rw [e1] at hp; exact hp
  | ok p =>
    rw [e1] at hp
    intro vs G1 H1 s1 st1 rs
    simp only [Res.bind_ok] at hp
    unfold fEnumL at hp
    split at hp
    · rename_i ds ej
      rw [ej] at rs
      obtain ⟨v, rfl, r⟩ := rpL1 rs
      obtain ⟨a, ws, rfl, ha, l⟩ := rp_lst.mp r
      refine ⟨a, ws, rfl, SqL.of (s1.sub _ _ ha), hp _ G1 H1 s1 st1 ?_⟩
      intro i G2 H2 s2 g2
      have hs : SqL X.K H2 a ws := SqL.of (s2.sub _ _ (g2 _ _ ha))
      refine ⟨fun d e => ?_, fun e => ⟨ws, hs, by rw [← l.length]; rw [enumD_len] at e; exact e⟩⟩
      obtain ⟨d0, e2, rfl⟩ := enumD_get ds 0 i d e
      obtain ⟨v, e3, r⟩ := l.get e2
      refine ⟨⟨ws, v, hs, e3⟩, fun x H' y => ?_⟩
      obtain ⟨T, x0, rfl, hT, rfl, y⟩ := y
      have ex := y ws hs
      rw [e3] at ex
      cases ex
      exact new_pair s2 hT (rp_int.mpr (by simp)) (r.mono g2)
    · exact hp.elim
@[simp] def fZip : List D → Res (List D)
  | [.lst as, .lst bs] => .ok (zipD as bs)
  | [.tup as, .tup bs] => .ok (zipD as bs)
  | _ => .stuck
theorem pit_zip (c : CO M W k X) {e2 : Expr} {p tpos : Pos} {elts : List Expr} {kk : Nat} {fs} (hm : X.mg "zip" = none) (ha : PA' M W X [e, e2] fs) (hg : Gl X "zip" := by rfl)
    (hs : starEach [e, e2] X.env = (false, eval e X.env) :: starEach [e2] X.env := by rfl) (hpl : (backTo pos (starEach [e2] X.env)).any (·.1) = false := by rfl) :
    PIt M W X (.Tuple elts kk tpos) (.Call (.Name "zip" p) [e, e2] [] pos) (iCall fZip fs) := by
  obtain ⟨⟨t, et, qt⟩, hl⟩ := ha
  refine ⟨_, RZ.pi_zipA hg hm et hs hpl, fun σ G H ε s Q hp => ?_⟩
  refine qt σ G H ε s _ ?_
  simp only [iCall] at hp
  cases e1 : fs ε with
  | stuck => rw [e1] at hp; exact hp
  | err c => rw [e1] at hp; exact hp
  | ok p =>
    rw [e1] at hp
    intro vs G1 H1 s1 st1 rs
    simp only [Res.bind_ok] at hp
    unfold fZip at hp
    split at hp
    · rename_i as bs ej
      rw [ej] at rs
      obtain ⟨v, w, rfl, r, r2⟩ := rpL2 rs
      obtain ⟨a, xs, rfl, ha, l⟩ := rp_lst.mp r
      obtain ⟨b, ys, rfl, hb, l2⟩ := rp_lst.mp r2
      refine ⟨a, b, xs, ys, rfl, .inl ⟨SqL.of (s1.sub _ _ ha), SqL.of (s1.sub _ _ hb), hp _ G1 H1 s1 st1 ?_⟩⟩
      intro i G2 H2 s2 g2
      have hx : SqL X.K H2 a xs := SqL.of (s2.sub _ _ (g2 _ _ ha))
      have hy : SqL X.K H2 b ys := SqL.of (s2.sub _ _ (g2 _ _ hb))
      refine ⟨fun d e => ?_, fun e => ⟨xs, ys, hx, hy, by rw [← l.length, ← l2.length]; rw [zipD_len] at e; omega⟩⟩
      obtain ⟨d1, d2, e2, e3, rfl⟩ := zipD_get as bs i d e
      obtain ⟨v1, e4, r4⟩ := l.get e2
      obtain ⟨v2, e5, r5⟩ := l2.get e3
      refine ⟨⟨xs, ys, v1, v2, hx, hy, e4, e5⟩, fun x H' y => ?_⟩
      obtain ⟨T, x1, x2, rfl, hT, rfl, y1, y2⟩ := y
      have ex1 := y1 xs hx
      have ex2 := y2 ys hy
      rw [e4] at ex1
      rw [e5] at ex2
      cases ex1
      cases ex2
      exact new_pair s2 hT (r4.mono g2) (r5.mono g2)
    · rename_i as bs ej
      rw [ej] at rs
      obtain ⟨v, w, rfl, r, r2⟩ := rpL2 rs
      obtain ⟨a, xs, rfl, ha, l⟩ := rp_tup.mp r
      obtain ⟨b, ys, rfl, hb, l2⟩ := rp_tup.mp r2
      rw [← c.hK] at ha hb
      refine ⟨a, b, xs, ys, rfl, .inr ⟨sqT_mono s1.sub ha, sqT_mono s1.sub hb, hp _ G1 H1 s1 st1 ?_⟩⟩
      intro i G2 H2 s2 g2
      have hx : SqT X.K H2 a xs := sqT_mono s2.sub (sqT_mono g2 ha)
      have hy : SqT X.K H2 b ys := sqT_mono s2.sub (sqT_mono g2 hb)
      refine ⟨fun d e => ?_, fun e => ⟨xs, ys, hx, hy, by rw [← l.length, ← l2.length]; rw [zipD_len] at e; omega⟩⟩
      obtain ⟨d1, d2, e2, e3, rfl⟩ := zipD_get as bs i d e
      obtain ⟨v1, e4, r4⟩ := l.get e2
      obtain ⟨v2, e5, r5⟩ := l2.get e3
      refine ⟨⟨xs, ys, v1, v2, hx, hy, e4, e5⟩, fun x H' y => ?_⟩
      obtain ⟨T, x1, x2, rfl, hT, rfl, y1, y2⟩ := y
      have ex1 := y1 xs hx
      have ex2 := y2 ys hy
      rw [e4] at ex1
      rw [e5] at ex2
      cases ex1
      cases ex2
      exact new_pair s2 hT (r4.mono g2) (r5.mono g2)
    · exact hp.elim
end

/-! ### targets -/
/-- a target: the slots it stores to, and what it makes of them -/
def TgOk (M : Fr) (g : TG) (f : D → Ev → Res Ev) (is : List Nat) : Prop :=
  ∀ (d : D) (v : V) (σ : St) (G H : Hp) (ε ε' : Ev), SR M G H σ ε → Rp M.F G d v → f d ε = .ok ε' → ∀ Q : St → Hp → Prop,
    (∀ σ', SR M G H σ' ε' → (∀ q, Own σ' ε' q → Own σ ε q) → (∀ i, i ∉ is → σ'[i]? = σ[i]? ∧ ε'[i]? = ε[i]?) → σ'.length = σ.length → Q σ' H) → g v σ H Q
def TgsOk (M : Fr) (g : TGs) (f : List D → Ev → Res Ev) (is : List Nat) : Prop :=
  ∀ (ds : List D) (vs : List V) (σ : St) (G H : Hp) (ε ε' : Ev), SR M G H σ ε → RpL M.F G ds vs → f ds ε = .ok ε' → ∀ Q : St → Hp → Prop,
    (∀ σ', SR M G H σ' ε' → (∀ q, Own σ' ε' q → Own σ ε q) → (∀ i, i ∉ is → σ'[i]? = σ[i]? ∧ ε'[i]? = ε[i]?) → σ'.length = σ.length → Q σ' H) → g vs σ H Q
def PTg (M : Fr) (X : Cx) (tg : Expr) (f : D → Ev → Res Ev) (is : List Nat) : Prop := ∃ g, PG X tg g ∧ TgOk M g f is
def PTgs (M : Fr) (X : Cx) (tgs : List Expr) (f : List D → Ev → Res Ev) (is : List Nat) : Prop := ∃ g, PGs X tgs g ∧ TgsOk M g f is ∧ ∀ ds ε ε', f ds ε = .ok ε' → ds.length = tgs.length
@[reducible, simp] def tName (i : Nat) (d : D) (ε : Ev) : Res Ev := if i < ε.length then .ok (ε.set i (.pu d)) else .stuck
@[reducible, simp] def tsNil (ds : List D) (ε : Ev) : Res Ev := match ds with
  | [] => .ok ε
  | _ => .stuck
@[reducible, simp] def tsCons (f : D → Ev → Res Ev) (g : List D → Ev → Res Ev) (ds : List D) (ε : Ev) : Res Ev := match ds with
  | d :: r => (f d ε).bind fun ε1 => g r ε1
  | _ => .stuck
@[reducible, simp] def tTupD (g : List D → Ev → Res Ev) (d : D) (ε : Ev) : Res Ev := match d with
  | .tup ds => g ds ε
  | _ => .stuck

theorem SR.setPu {M : Fr} {G H : Hp} {σ : St} {ε : Ev} (s : SR M G H σ ε) {i : Nat} {d : D} {v : V} (hi : i < ε.length) (r : Rp M.F G d v) (hc : M.cp = none ∨ i ≠ 0) :
    SR M G H (σ.set i (some v)) (ε.set i (.pu d)) ∧ ∀ q, Own (σ.set i (some v)) (ε.set i (.pu d)) q → Own σ ε q := by
  have hσ : i < σ.length := by rw [← s.len]; exact hi
  have own : ∀ (j : Nat) (ds : List D), (ε.set i (.pu d))[j]? = some (.ow ds) → j ≠ i ∧ ε[j]? = some (.ow ds) := fun j ds e => by
    by_cases hj : j = i
    · subst hj
      rw [List.getElem?_set_self hi] at e
      cases e
    · rw [List.getElem?_set_ne (Ne.symm hj)] at e
      exact ⟨hj, e⟩
  have at_ : ∀ (j : Nat), j ≠ i → (σ.set i (some v))[j]? = σ[j]? := fun j hj => List.getElem?_set_ne (Ne.symm hj)
  refine ⟨⟨s.sub, s.ntb, s.tabs, by rw [List.length_set, List.length_set]; exact s.len, fun j x o e1 e2 => ?_, fun j l ds es q e1 e2 e3 e4 => ?_, fun p hp => ?_⟩, fun q ⟨j, ds, e1, e2⟩ => ?_⟩
  · by_cases hj : j = i
    · subst hj
      rw [List.getElem?_set_self hi] at e1
      rw [List.getElem?_set_self hσ] at e2
      cases e1
      cases e2
      exact ⟨v, rfl, r⟩
    · rw [List.getElem?_set_ne (Ne.symm hj)] at e1 e2
      exact s.slots j x o e1 e2
  · obtain ⟨h1, e1⟩ := own j ds e1
    obtain ⟨h2, e2⟩ := own l es e2
    rw [at_ j h1] at e3
    rw [at_ l h2] at e4
    exact s.inj j l ds es q e1 e2 e3 e4
  · obtain ⟨a, ds, b⟩ := s.cup p hp
    have h0 : (0 : Nat) ≠ i := fun e => by
      rcases hc with z | z
      · rw [z] at hp; cases hp
      · exact z e.symm
    rw [at_ 0 h0, List.getElem?_set_ne (Ne.symm h0)]
    exact ⟨a, ds, b⟩
  · obtain ⟨h1, e1⟩ := own j ds e1
    rw [at_ j h1] at e2
    exact ⟨j, ds, e1, e2⟩
section
variable {M : Fr} {W : WX} {X : Cx} {k : Nat} {tg a b e : Expr} {es rest : List Expr} {fa fb f : Ev → Res (D × Ev)} {g : Ev → Res (List D × Ev)} {pos : Pos}
theorem ptg_name {i : Nat} {x : Str} (hN : X.N.Nodup) (hc : M.cp = none ∨ i ≠ 0) (hi : X.N[i]? = some x := by rfl) (hx : Loc X.env.scope x := by first | exact Or.inl rfl | exact Or.inr rfl) (hf : X.fn x = true ∨ X.env.scope.names.lookup x = some .local := by first | exact .inl rfl | exact .inr rfl | assumption) : PTg M X (.Name x pos) (tName i) [i] := by
  refine ⟨_, pg_name hN hi hx hf, fun d v σ G H ε ε' s r h Q hq => ?_⟩
  unfold tName at h
  split at h
  · rename_i hl
    cases h
    obtain ⟨s2, o⟩ := s.setPu hl r hc
    refine hq _ s2 o (fun j hj => ?_) (by rw [List.length_set])
    have hj' : i ≠ j := fun e => hj (by rw [e]; simp)
    exact ⟨List.getElem?_set_ne hj', List.getElem?_set_ne hj'⟩
  · cases h
theorem ptgs_nil : PTgs M X [] tsNil [] := by
  refine ⟨_, pgs_nil, fun ds vs σ G H ε ε' s r h Q hq => ?_, fun ds ε ε' h => ?_⟩
  · cases ds with
    | nil =>
      cases h
      exact ⟨r.of_nil, hq σ s (fun _ h => h) (fun _ _ => ⟨rfl, rfl⟩) rfl⟩
    | cons d ds => cases h
  · cases ds with
    | nil => rfl
    | cons d ds => cases h
theorem ptgs_cons {e : Expr} {es : List Expr} {f1 : D → Ev → Res Ev} {f2 : List D → Ev → Res Ev} {is js : List Nat} (h1 : PTg M X e f1 is) (h2 : PTgs M X es f2 js)
    (hs : (assignEach (e :: es) X.env).map (·.2) = assign e X.env :: (assignEach es X.env).map (·.2) := by rfl) : PTgs M X (e :: es) (tsCons f1 f2) (is ++ js) := by
  obtain ⟨g1, p1, q1⟩ := h1
  obtain ⟨g2, p2, q2, l2⟩ := h2
  refine ⟨_, pgs_cons p1 p2 hs, fun ds vs σ G H ε ε' s r h Q hq => ?_, fun ds ε ε' h => ?_⟩
  · cases ds with
    | nil => cases h
    | cons d ds =>
      obtain ⟨v, ws, rfl, rv, rl⟩ := r.of_cons
      cases e1 : f1 d ε with
      | stuck => simp only [tsCons, e1] at h; cases h
      | err c => simp only [tsCons, e1] at h; cases h
      | ok ε1 =>
        have h' : f2 ds ε1 = .ok ε' := by simpa only [tsCons, e1, Res.bind_ok] using h
        refine ⟨v, ws, rfl, q1 d v σ G H ε ε1 s rv e1 _ fun σ1 s1 o1 k1 n1 => ?_⟩
        refine q2 ds ws σ1 G H ε1 ε' s1 rl h' Q fun σ2 s2 o2 k2 n2 => ?_
        refine hq σ2 s2 (fun q z => o1 q (o2 q z)) (fun i hi => ?_) (n2.trans n1)
        have hi' : i ∉ is ∧ i ∉ js := by simpa only [List.mem_append, not_or] using hi
        exact ⟨(k2 i hi'.2).1.trans (k1 i hi'.1).1, (k2 i hi'.2).2.trans (k1 i hi'.1).2⟩
  · cases ds with
    | nil => cases h
    | cons d ds =>
      cases e1 : f1 d ε with
      | stuck => simp only [tsCons, e1] at h; cases h
      | err c => simp only [tsCons, e1] at h; cases h
      | ok ε1 =>
        have h' : f2 ds ε1 = .ok ε' := by simpa only [tsCons, e1, Res.bind_ok] using h
        simp [l2 ds ε1 ε' h']
theorem ptg_tup (c : CO M W k X) {es : List Expr} {kk : Nat} {f2 : List D → Ev → Res Ev} {is : List Nat} (h : PTgs M X es f2 is) (hn : (assignEach es X.env).length = es.length := by rfl) (hst : (assignEach es X.env).findIdx? (·.1) = none := by rfl) : PTg M X (.Tuple es kk pos) (tTupD f2) is := by
  obtain ⟨g, p, q, l⟩ := h
  refine ⟨_, pg_tup c.calm p hn hst, fun d v σ G H ε ε' s r h Q hq => ?_⟩
  cases d with
  | tup ds =>
    obtain ⟨a, vs, rfl, ha, rl⟩ := rp_tup.mp r
    refine ⟨a, vs, rfl, by rw [c.hK]; exact sqT_mono s.sub ha, ?_, q ds vs σ G H ε ε' s rl h Q hq⟩
    rw [← rl.length]
    exact l ds ε ε' h
  | _ => cases h
end
end PL
/-! PL, part g: comprehensions. -/
namespace PL
open PySem PySem.Spec PyProof.Rows L2

/-! ### one reading for a function -/
def tOf {α β : Type} (M : Fr) (W : WX) (R : Hp → β → α → Prop) (f : Ev → Res (β × Ev)) : St → Hp → (α → Hp → Prop) → Prop := fun σ H Q => ∃ G ε, SR M G H σ ε ∧ Post M W σ G H ε R (f ε) Q
theorem PV.pe {M : Fr} {W : WX} {X : Cx} {e : Expr} {f : Ev → Res (D × Ev)} (h : PV M W X e f) : PE X e (tOf M W (Rp M.F) f) := by
  obtain ⟨t, et, q⟩ := h
  exact ⟨fun pins s σ H Q I ⟨G, ε, r, p⟩ => et.run pins s σ H Q I (q σ G H ε r Q p)⟩
theorem PB.pt {M : Fr} {W : WX} {X : Cx} {e : Expr} {f : Ev → Res (Bool × Ev)} (h : PB M W X e f) : PT X e (tOf M W RB f) := by
  obtain ⟨t, et, q⟩ := h
  exact ⟨fun pins s σ H Q I ⟨G, ε, r, p⟩ => et.run pins s σ H Q I (q σ G H ε r Q p)⟩
def gOf (M : Fr) (f : D → Ev → Res Ev) (is : List Nat) : TG := fun v σ H Q => ∃ G ε d ε', SR M G H σ ε ∧ Rp M.F G d v ∧ f d ε = .ok ε' ∧
  ∀ σ', SR M G H σ' ε' → (∀ q, Own σ' ε' q → Own σ ε q) → (∀ i, i ∉ is → σ'[i]? = σ[i]? ∧ ε'[i]? = ε[i]?) → σ'.length = σ.length → Q σ' H
theorem PTg.pg {M : Fr} {X : Cx} {tg : Expr} {f : D → Ev → Res Ev} {is : List Nat} (h : PTg M X tg f is) : PG X tg (gOf M f is) := by
  obtain ⟨g, p, q⟩ := h
  exact ⟨fun pins s σ H v u Q I r ⟨G, ε, d, ε', sr, rd, e, k⟩ => p.run pins s σ H v u Q I r (q d v σ G H ε ε' sr rd e Q k)⟩

/-- the test of a comprehension: none or one -/
def PTs' (M : Fr) (W : WX) (X : Cx) (ifs : List Expr) (f : Ev → Res (Bool × Ev)) : Prop := PTs X ifs (tOf M W RB f)
theorem pts_nil' {M : Fr} {W : WX} {X : Cx} : PTs' M W X [] (fun ε => .ok (true, ε)) := by
  refine ⟨fun pins s σ H Q I ⟨G, ε, r, p⟩ => ?_⟩
  exact pts_nil.run pins s σ H Q I (p true G H r (Step.refl ..) rfl)
theorem pts_one' {M : Fr} {W : WX} {X : Cx} {c : Expr} {f : Ev → Res (Bool × Ev)} (h : PB M W X c f) : PTs' M W X [c] f := pts_one h.pt

/-! ### the slots of a block -/
@[simp] def wipeE (ε : Ev) : List Nat → Ev
  | [] => ε
  | v :: vs => (wipeE ε vs).set v .em
@[simp] def backE (ε ε2 : Ev) : List Nat → Ev
  | [] => ε2
  | v :: vs => (backE ε ε2 vs).set v (ε.getD v .em)
@[simp] def slotFree (ε : Ev) (v : Nat) : Bool := match ε[v]? with
  | some .em => true
  | some (.pu _) => true
  | _ => false
@[simp] def noOw (ε : Ev) (vs : List Nat) : Bool := vs.all (slotFree ε)
theorem wipeE_len (ε : Ev) : ∀ vs, (wipeE ε vs).length = ε.length
  | [] => rfl
  | v :: vs => by unfold wipeE; rw [List.length_set, wipeE_len ε vs]
theorem wipeE_in {ε : Ev} {i : Nat} {x : Slot} : ∀ {vs : List Nat}, i ∈ vs → (wipeE ε vs)[i]? = some x → x = .em
  | [], h, _ => by simp at h
  | v :: vs, h, e => by
    unfold wipeE at e
    by_cases hv : v = i
    · subst hv
      have hl : v < (wipeE ε vs).length := by
        have := (List.getElem?_eq_some_iff.mp e).1
        rwa [List.length_set] at this
      rw [List.getElem?_set_self hl] at e
      exact (Option.some.inj e).symm
    · rw [List.getElem?_set_ne hv] at e
      exact wipeE_in ((List.mem_cons.mp h).resolve_left fun z => hv z.symm) e
theorem wipeE_out {ε : Ev} {i : Nat} : ∀ {vs : List Nat}, i ∉ vs → (wipeE ε vs)[i]? = ε[i]?
  | [], _ => rfl
  | v :: vs, h => by
    unfold wipeE
    have h' : i ≠ v ∧ i ∉ vs := by simpa only [List.mem_cons, not_or] using h
    rw [List.getElem?_set_ne (Ne.symm h'.1)]
    exact wipeE_out h'.2
theorem wipe_out' {σ : St} {i : Nat} : ∀ {vs : List Nat}, i ∉ vs → (wipe σ vs)[i]? = σ[i]?
  | [], _ => rfl
  | v :: vs, h => by
    unfold wipe
    have h' : i ≠ v ∧ i ∉ vs := by simpa only [List.mem_cons, not_or] using h
    rw [List.getElem?_set_ne (Ne.symm h'.1)]
    exact wipe_out' h'.2
theorem backE_len (ε ε2 : Ev) : ∀ vs, (backE ε ε2 vs).length = ε2.length
  | [] => rfl
  | v :: vs => by unfold backE; rw [List.length_set, backE_len ε ε2 vs]
theorem backE_out {ε ε2 : Ev} {i : Nat} : ∀ {vs : List Nat}, i ∉ vs → (backE ε ε2 vs)[i]? = ε2[i]?
  | [], _ => rfl
  | v :: vs, h => by
    unfold backE
    have h' : i ≠ v ∧ i ∉ vs := by simpa only [List.mem_cons, not_or] using h
    rw [List.getElem?_set_ne (Ne.symm h'.1)]
    exact backE_out h'.2
theorem backE_in {ε ε2 : Ev} {i : Nat} {x : Slot} (hl : ε.length = ε2.length) : ∀ {vs : List Nat}, i ∈ vs → (backE ε ε2 vs)[i]? = some x → ε[i]? = some x
  | [], h, _ => by simp at h
  | v :: vs, h, e => by
    unfold backE at e
    by_cases hv : v = i
    · subst hv
      have h2 : v < (backE ε ε2 vs).length := by
        have := (List.getElem?_eq_some_iff.mp e).1
        rwa [List.length_set] at this
      rw [List.getElem?_set_self h2] at e
      have h3 : v < ε.length := by rw [backE_len] at h2; omega
      rw [List.getD_eq_getElem?_getD, List.getElem?_eq_getElem h3] at e
      rw [List.getElem?_eq_getElem h3]
      exact e
    · rw [List.getElem?_set_ne hv] at e
      exact backE_in hl ((List.mem_cons.mp h).resolve_left fun z => hv z.symm) e

/-- entering a block -/
theorem SR.wipe {M : Fr} {G H : Hp} {σ : St} {ε : Ev} (s : SR M G H σ ε) {vs : List Nat} (hc : M.cp = none ∨ 0 ∉ vs) : SR M G H (L2.wipe σ vs) (wipeE ε vs) ∧ ∀ q, Own (L2.wipe σ vs) (wipeE ε vs) q → Own σ ε q := by
  have own : ∀ (j : Nat) (ds : List D), (wipeE ε vs)[j]? = some (.ow ds) → j ∉ vs ∧ ε[j]? = some (.ow ds) := fun j ds e => by
    have h : j ∉ vs := fun z => by have := wipeE_in z e; cases this
    rw [wipeE_out h] at e
    exact ⟨h, e⟩
  refine ⟨⟨s.sub, s.ntb, s.tabs, by rw [wipeE_len, wipe_length]; exact s.len, fun j x o e1 e2 => ?_, fun j l ds es q e1 e2 e3 e4 => ?_, fun p hp => ?_⟩, fun q ⟨j, ds, e1, e2⟩ => ?_⟩
  · by_cases hj : j ∈ vs
    · rw [wipeE_in hj e1]; trivial
    · rw [wipeE_out hj] at e1
      rw [wipe_out' hj] at e2
      exact s.slots j x o e1 e2
  · obtain ⟨h1, e1⟩ := own j ds e1
    obtain ⟨h2, e2⟩ := own l es e2
    rw [wipe_out' h1] at e3
    rw [wipe_out' h2] at e4
    exact s.inj j l ds es q e1 e2 e3 e4
  · obtain ⟨a, ds, b⟩ := s.cup p hp
    have h0 : 0 ∉ vs := by
      rcases hc with z | z
      · rw [z] at hp; cases hp
      · exact z
    rw [wipe_out' h0, wipeE_out h0]
    exact ⟨a, ds, b⟩
  · obtain ⟨h1, e1⟩ := own j ds e1
    rw [wipe_out' h1] at e2
    exact ⟨j, ds, e1, e2⟩
/-- leaving it -/
theorem SR.back {M : Fr} {G H G2 H2 : Hp} {σ σ2 : St} {ε ε2 : Ev} {vs : List Nat} (s : SR M G H σ ε) (s2 : SR M G2 H2 σ2 ε2) (gg : ∀ q o, G q = some o → G2 q = some o) (hn : noOw ε vs = true) (hw : L2.wipe σ2 vs = L2.wipe σ vs) (hl : σ2.length = σ.length) :
    SR M G2 H2 σ (backE ε ε2 vs) ∧ ∀ q, Own σ (backE ε ε2 vs) q → Own σ2 ε2 q := by
  have hlen : ε.length = ε2.length := by rw [s.len, s2.len, hl]
  have eqσ : ∀ j, j ∉ vs → σ2[j]? = σ[j]? := fun j h => by
    rw [← wipe_out' (σ := σ2) h, hw, wipe_out' h]
  have free : ∀ j ∈ vs, ∀ ds, ε[j]? ≠ some (.ow ds) := fun j hj ds e => by
    have := List.all_eq_true.mp hn j hj
    simp [slotFree, e] at this
  have own : ∀ (j : Nat) (ds : List D), (backE ε ε2 vs)[j]? = some (.ow ds) → j ∉ vs ∧ ε2[j]? = some (.ow ds) := fun j ds e => by
    have h : j ∉ vs := fun z => free j z ds (backE_in hlen z e)
    rw [backE_out h] at e
    exact ⟨h, e⟩
  refine ⟨⟨s2.sub, s2.ntb, s2.tabs, by rw [backE_len, ← hlen]; exact s.len, fun j x o e1 e2 => ?_, fun j l ds es q e1 e2 e3 e4 => ?_, fun p hp => ?_⟩, fun q ⟨j, ds, e1, e2⟩ => ?_⟩
  · by_cases hj : j ∈ vs
    · have e3 := backE_in hlen hj e1
      have h := s.slots j x o e3 e2
      cases x with
      | em => trivial
      | pu d =>
        obtain ⟨v, e, r⟩ := h
        exact ⟨v, e, r.mono gg⟩
      | ow ds => exact absurd e3 (free j hj ds)
    · rw [backE_out hj] at e1
      rw [← eqσ j hj] at e2
      exact s2.slots j x o e1 e2
  · obtain ⟨h1, e1⟩ := own j ds e1
    obtain ⟨h2, e2⟩ := own l es e2
    rw [← eqσ j h1] at e3
    rw [← eqσ l h2] at e4
    exact s2.inj j l ds es q e1 e2 e3 e4
  · obtain ⟨a, ds, b⟩ := s2.cup p hp
    obtain ⟨a', ds', b'⟩ := s.cup p hp
    have h0 : 0 ∉ vs := fun z => free 0 z ds' b'
    rw [backE_out h0]
    exact ⟨a', ds, b⟩
  · obtain ⟨h1, e1⟩ := own j ds e1
    rw [← eqσ j h1] at e2
    exact ⟨j, ds, e1, e2⟩

/-! ### the loop -/
@[simp] def Res.ne {α : Type} : Res α → Res α
  | .ok a => .ok a
  | _ => .stuck
@[simp] theorem Res.ne_ok {α : Type} (a : α) : (Res.ok a).ne = .ok a := rfl
@[simp] theorem Res.ne_err {α : Type} (c : Nat) : (Res.err c : Res α).ne = .stuck := rfl
@[simp] theorem Res.ne_stuck {α : Type} : (Res.stuck : Res α).ne = .stuck := rfl
@[simp] def blkF (vs : List Nat) (tgt : D → Ev → Res Ev) (test : Ev → Res (Bool × Ev)) (elt : Ev → Res (D × Ev)) (x : D) (ε : Ev) : Res (Option D × Ev) :=
  (tgt x (wipeE ε vs)).bind fun ε1 => (test ε1).bind fun b => if b.1 then (elt b.2).bind fun r => .ok (some r.1, backE ε r.2 vs) else .ok (none, backE ε b.2 vs)
@[simp] def accD (acc : List D) : Option D → List D
  | some y => acc ++ [y]
  | none => acc
def loopC (vs : List Nat) (blk : D → Ev → Res (Option D × Ev)) : List D → Ev → List D → Res (List D × Ev)
  | [], ε, acc => .ok (acc, ε)
  | x :: xs, ε, acc => if noOw ε vs then (blk x ε).ne.bind fun p => loopC vs blk xs p.2 (accD acc p.1) else .stuck
def eComp (vs : List Nat) (src : Ev → Res (List D × Ev)) (tgt : D → Ev → Res Ev) (test : Ev → Res (Bool × Ev)) (elt : Ev → Res (D × Ev)) : Ev → Res (List D × Ev) := fun ε =>
  (src ε).bind fun p => if p.1.length ≤ 1000000 then loopC vs (blkF vs tgt test elt) p.1 p.2 [] else .stuck
abbrev W0 : WX := fun _ _ _ _ => False

theorem takes00 {X : Cx} : Takes X W0 := fun _ _ x => by
  obtain ⟨_, _, _, _, _, _, _, _, _, _, _, _, _, _, _, _, z⟩ := x
  exact z.elim
theorem CO.blk {M : Fr} {W : WX} {k : Nat} {X : Cx} (c : CO M W k X) (s : Shared) (H : Hp) (scope : Scope) (env : Env) (fp : List Addr) : CO M W0 k (X.blk s H scope env fp) :=
  ⟨c.hK, c.calm, takes00, c.nd, c.hr, PassesOwn.never⟩
theorem errOk_never {M : Fr} {G H : Hp} {σ : St} {ε : Ev} {c : Nat} (s : SR M G H σ ε) (h : ErrOk M W0 G H (Own σ ε) c) : False := h σ G H ε s (Step.refl ..)

/-- the invariant of a comprehension's loop -/
structure LcInv (M : Fr) (σ : St) (G0 H0 : Hp) (O0 : Addr → Prop) (G1 : Hp) (ds : List D) (vs : List Nat) (blk : D → Ev → Res (Option D × Ev)) (r : Res (List D × Ev)) (A : Addr) (i m : Nat) (H : Hp) (G : Hp) (ε : Ev) (acc : List D) (av : List V) : Prop where
  hm : m = ds.length - i
  hi : i ≤ ds.length
  sr : SR M G H σ ε
  st : Step G0 H0 O0 G H (Own σ ε)
  g1 : ∀ q o, G1 q = some o → G q = some o
  gA : G A = none
  hA : H A = some (.lst av)
  no : ¬ Own σ ε A
  rl : RpL M.F G acc av
  al : acc.length ≤ i
  eq : loopC vs blk (ds.drop i) ε acc = r

theorem tr_lc {M : Fr} {W : WX} {wi : TI} {src : Ev → Res (List D × Ev)} {tgt : D → Ev → Res Ev} {is : List Nat} {test : Ev → Res (Bool × Ev)} {elt : Ev → Res (D × Ev)} {vs : List Nat} (hw : Tr M W (fun G ds J => ItOk M.F J G ds) wi src) (hc : M.cp = none ∨ 0 ∉ vs) (his : ∀ i ∈ is, i ∈ vs) :
    TrN M W (tLc wi (gOf M tgt is) (tOf M W0 RB test) (tOf M W0 (Rp M.F) elt) vs) (eComp vs src tgt test elt) := by
  intro σ G H ε s Q hp
  refine hw σ G H ε s _ ?_
  unfold eComp at hp
  cases e0 : src ε with
  | stuck => rw [e0] at hp; exact hp
  | err c => rw [e0] at hp; exact hp
  | ok p =>
    rw [e0] at hp
    simp only [Res.bind_ok] at hp
    intro J G1 H1 s1 st1 ij A nA
    by_cases hz : p.1.length ≤ 1000000
    case neg => rw [if_neg hz] at hp; exact hp.elim
    rw [if_pos hz] at hp
    generalize hr : loopC vs (blkF vs tgt test elt) p.1 p.2 [] = r at hp
    obtain ⟨sA, stA, gA, noA⟩ := s1.newH (o := .lst []) nA
    refine ⟨fun i m H => ∃ G ε' acc av, LcInv M σ G1 H1 (Own σ p.2) G1 p.1 vs (blkF vs tgt test elt) r A i m H G ε' acc av, ⟨p.1.length, G1, p.2, [], [], by simp, Nat.zero_le _, sA, stA, fun _ _ h => h, gA, upd_same, noA, RpL.nil, Nat.le_refl _, by rw [List.drop_zero]; exact hr⟩, ?_⟩
    rintro i m H2 ⟨G2, ε2, acc, av, L⟩
    have it := ij i G2 H2 L.sr.hg L.g1
    by_cases hlt : i < p.1.length
    case neg =>
      have hi : i = p.1.length := by have := L.hi; omega
      refine .inl ⟨it.2 (by omega), ?_⟩
      have eq := L.eq
      rw [hi, List.drop_length] at eq
      have eq' : r = .ok (acc, ε2) := eq.symm
      rw [eq'] at hp
      have hp1 : PostN M W σ G1 H1 p.2 (.ok (acc, ε2)) Q := PostN.shift s1 st1 hp
      exact hp1 A av G2 H2 L.sr L.st L.gA L.hA L.rl nA L.no
    case pos =>
      obtain ⟨go, yld⟩ := it.1 p.1[i] (List.getElem?_eq_getElem hlt)
      have hd : p.1.drop i = p.1[i] :: p.1.drop (i + 1) := List.drop_eq_getElem_cons hlt
      have eq := L.eq
      rw [hd] at eq
      simp only [loopC] at eq
      by_cases hno : noOw ε2 vs = true
      case neg =>
        rw [if_neg hno] at eq
        rw [← eq] at hp
        exact hp.elim
      rw [if_pos hno] at eq
      refine .inr ⟨go, fun H' => ∃ G ε' acc av, LcInv M σ G1 H1 (Own σ p.2) G1 p.1 vs (blkF vs tgt test elt) r A (i + 1) (p.1.length - (i + 1)) H' G ε' acc av, fun H' h => ⟨p.1.length - (i + 1), by have := L.hm; omega, h⟩, fun x H3 y => ?_⟩
      obtain ⟨G3, gr, hg3, rx⟩ := yld x H3 y
      have s3 : SR M G3 H3 σ ε2 := L.sr.grow gr hg3.sub hg3.ntb hg3.tabs
      have st3 : Step G1 H1 (Own σ p.2) G3 H3 (Own σ ε2) := L.st.trans L.sr.sub (gr.step _)
      have gA3 : G3 A = none := by
        cases q : G3 A with
        | none => rfl
        | some u =>
          rcases gr.gn A u q with z | z
          · rw [L.gA] at z; cases z
          · rw [L.hA] at z; cases z
      have hA3 : H3 A = some (.lst av) := gr.hh _ _ L.hA (fun ps z => by cases z)
      obtain ⟨s4, o4⟩ := s3.wipe hc
      cases e1 : tgt p.1[i] (wipeE ε2 vs) with
      | stuck => simp only [blkF, e1, Res.bind_stuck, Res.ne_stuck] at eq; rw [← eq] at hp; exact hp.elim
      | err c => simp only [blkF, e1, Res.bind_err, Res.ne_err] at eq; rw [← eq] at hp; exact hp.elim
      | ok ε5 =>
        refine ⟨G3, wipeE ε2 vs, p.1[i], ε5, s4, rx, e1, fun σ5 s5 o5 k5 n5 => ?_⟩
        have hl5 : σ5.length = σ.length := n5.trans (wipe_length σ vs)
        have hw5 : L2.wipe σ5 vs = L2.wipe σ vs := by
          apply List.ext_getElem?
          intro j
          by_cases hj : j ∈ vs
          · have w : ∀ (τ : St), τ.length = σ.length → (L2.wipe τ vs)[j]? = (if j < σ.length then some none else none) := fun τ hτ => by
              by_cases hjl : j < σ.length
              · rw [if_pos hjl]
                cases q : (L2.wipe τ vs)[j]? with
                | none =>
                  have := List.getElem?_eq_none_iff.mp q
                  rw [wipe_length] at this
                  omega
                | some o =>
                  cases o with
                  | none => rfl
                  | some v => exact absurd hj (wipe_some q).2
              · rw [if_neg hjl, List.getElem?_eq_none_iff, wipe_length]; omega
            rw [w σ5 hl5, w σ rfl]
          · rw [wipe_out' hj]
            have := (k5 j fun z => hj (his j z)).1
            rw [this]
        refine ⟨hw5, G3, ε5, s5, ?_⟩
        have no5 : ¬ Own σ5 ε5 A := fun z => L.no (o4 _ (o5 _ z))
        have eqB : ∀ r', (test ε5).bind (fun b => if b.1 then (elt b.2).bind fun r => Res.ok (some r.1, backE ε2 r.2 vs) else .ok (none, backE ε2 b.2 vs)) = r' → r'.ne.bind (fun p_1 => loopC vs (blkF vs tgt test elt) (p.1.drop (i + 1)) p_1.2 (accD acc p_1.1)) = r := fun r' h => by
          rw [← h, ← eq]
          simp only [blkF, e1, Res.bind_ok]
        cases e2 : test ε5 with
        | stuck =>
          have := eqB .stuck (by rw [e2]; rfl)
          rw [← this] at hp; exact hp.elim
        | err c =>
          have := eqB (.err c) (by rw [e2]; rfl)
          rw [← this] at hp; exact hp.elim
        | ok b =>
          intro bv G6 H6 s6 st6 rb
          simp only [RB] at rb
          subst rb
          have gA6 : ∀ {G H : Hp} {O : Addr → Prop}, Step G3 H3 (Own σ5 ε5) G H O → G A = none := fun {G H O} st => by
            cases q : G A with
            | none => rfl
            | some u =>
              rcases st.gn A u q with z | z | z
              · rw [gA3] at z; cases z
              · rw [hA3] at z; cases z
              · exact (no5 z).elim
          have hA6 : ∀ {G H : Hp} {O : Addr → Prop}, Step G3 H3 (Own σ5 ε5) G H O → H A = some (.lst av) := fun st => st.hh _ _ hA3 (fun ps z => by cases z) no5
          -- behind the block's turn
          have fin : ∀ {G7 H7 : Hp} {ε7 : Ev}, SR M G7 H7 σ5 ε7 → Step G3 H3 (Own σ5 ε5) G7 H7 (Own σ5 ε7) → SR M G7 H7 σ (backE ε2 ε7 vs) ∧ Step G1 H1 (Own σ p.2) G7 H7 (Own σ (backE ε2 ε7 vs)) ∧ ¬ Own σ (backE ε2 ε7 vs) A := fun {G7 H7 ε7} s7 st7 => by
            obtain ⟨sb, ob⟩ := s3.back s7 st7.gg hno hw5 hl5
            have o75 : ∀ q, Own σ (backE ε2 ε7 vs) q → Own σ ε2 q ∨ H3 q = none := fun q z => (st7.oo q (ob q z)).elim (fun y => .inl (o4 q (o5 q y))) .inr
            have stt : Step G3 H3 (Own σ ε2) G7 H7 (Own σ (backE ε2 ε7 vs)) :=
              ⟨st7.gg, fun q o h nt nn => st7.hh q o h nt fun y => nn (o4 q (o5 q y)), st7.hs, fun q o h => (st7.gn q o h).elim .inl fun z => .inr (z.elim .inl fun y => .inr (o4 q (o5 q y))), o75⟩
            refine ⟨sb, st3.trans s3.sub stt, fun z => ?_⟩
            rcases o75 A z with y | y
            · exact L.no y
            · rw [hA3] at y; cases y
          cases hb : b.1 with
          | false =>
            rw [if_neg Bool.false_ne_true]
            have e3 := eqB (.ok (none, backE ε2 b.2 vs)) (by rw [e2]; simp [hb])
            obtain ⟨sb, stb, nb⟩ := fin s6 st6
            refine ⟨G6, backE ε2 b.2 vs, acc, av, rfl, by omega, sb, stb, fun q o h => st6.gg _ _ (gr.gg _ _ (L.g1 q o h)), gA6 st6, hA6 st6, nb, L.rl.mono fun q o h => st6.gg _ _ (gr.gg _ _ h), by have := L.al; omega, ?_⟩
            simpa [accD] using e3
          | true =>
            rw [if_pos rfl]
            refine ⟨G6, b.2, s6, ?_⟩
            cases e3 : elt b.2 with
            | stuck =>
              have := eqB .stuck (by rw [e2]; simp [hb, e3])
              rw [← this] at hp; exact hp.elim
            | err c =>
              have := eqB (.err c) (by rw [e2]; simp [hb, e3])
              rw [← this] at hp; exact hp.elim
            | ok y =>
              intro yv G7 H7 s7 st7' ry
              have st7 := st6.trans s6.sub st7'
              have e4 := eqB (.ok (some y.1, backE ε2 y.2 vs)) (by rw [e2]; simp [hb, e3])
              obtain ⟨sb, stb, nb⟩ := fin s7 st7
              refine ⟨av, hA6 st7, ?_, ?_⟩
              · have h1 := L.rl.length
                have h2 := L.al
                have h3 : (1000000 : Nat) < sizeLine := by rw [sizeLine_eq]; decide
                omega
              · have rl7 : RpL M.F G7 (acc ++ [y.1]) (av ++ [yv]) := (L.rl.mono fun q o h => st7.gg _ _ (gr.gg _ _ h)).append (RpL.cons ry RpL.nil)
                -- the new list's object is written
                have neA : ∀ q o, G7 q = some o → q ≠ A := fun q o h z => by rw [z, gA6 st7] at h; cases h
                have su : SR M G7 (upd H7 A (.lst (av ++ [yv]))) σ (backE ε2 y.2 vs) := by
                  refine ⟨fun q o h => by rw [upd_ne (neA q o h)]; exact sb.sub q o h, sb.ntb, ?_, sb.len, fun j x o e1 e2 => ?_, sb.inj, sb.cup⟩
                  · intro t ht
                    obtain ⟨ps, h1, h2, h3⟩ := sb.tabs t ht
                    refine ⟨ps, ?_, h2, fun pos cv hc => ?_⟩
                    · rw [upd_ne (fun z => by rw [z, hA6 st7] at h1; cases h1)]; exact h1
                    · obtain ⟨cc, e1, e2⟩ := h3 pos cv hc
                      refine ⟨cc, e1, ?_⟩
                      rw [upd_ne (fun z => by rw [z, hA6 st7] at e2; unfold LamX.CodeO at e2; cases e2)]; exact e2
                  · have h := sb.slots j x o e1 e2
                    cases x with
                    | em => trivial
                    | pu d => exact h
                    | ow es =>
                      obtain ⟨q, ws, e, n, hq, r⟩ := h
                      refine ⟨q, ws, e, n, ?_, r⟩
                      rw [upd_ne (fun z => nb ⟨j, es, e1, by rw [← z, ← e]; exact e2⟩)]
                      exact hq
                refine ⟨G7, backE ε2 y.2 vs, acc ++ [y.1], av ++ [yv], rfl, by omega, su, ⟨stb.gg, fun q o h nt nn => ?_, fun q h => ?_, stb.gn, stb.oo⟩, fun q o h => st7.gg _ _ (gr.gg _ _ (L.g1 q o h)), gA6 st7, upd_same, nb, rl7, by have := L.al; simp; omega, ?_⟩
                · rw [upd_ne (ne_of_none h nA)]; exact stb.hh q o h nt nn
                · unfold upd at h
                  split at h
                  · cases h
                  · exact stb.hs q h
                · simpa [accD] using e4

section
variable {M : Fr} {W : WX} {X : Cx} {k : Nat} {pos : Pos}
theorem pn_lc (c : CO M W k X) {elt tg iter : Expr} {ifs : List Expr} {scope : Scope} {own : List (Str × Nat)} {src : Ev → Res (List D × Ev)} {tgt : D → Ev → Res Ev} {is : List Nat} {ft : Ev → Res (Bool × Ev)} {fe : Ev → Res (D × Ev)} (hi : PIt M W X tg iter src) (ok : blkC X.N X.env.scope scope own = true)
    (hg : ∀ (s : Shared) (H : Hp) (C : Addr) (cl : List (Str × Addr)) (fp : List Addr), CO M W0 k (X.blk s H scope (compEnvC scope cl C X.env) fp) → PTg M (X.blk s H scope (compEnvC scope cl C X.env) fp) tg tgt is)
    (ht : ∀ (s : Shared) (H : Hp) (C : Addr) (cl : List (Str × Addr)) (fp : List Addr), CO M W0 k (X.blk s H scope (compEnvC scope cl C X.env) fp) → PTs' M W0 (X.blk s H scope (compEnvC scope cl C X.env) fp) ifs ft)
    (he : ∀ (s : Shared) (H : Hp) (C : Addr) (cl : List (Str × Addr)) (fp : List Addr), CO M W0 k (X.blk s H scope (compEnvC scope cl C X.env) fp) → PV M W0 (X.blk s H scope (compEnvC scope cl C X.env) fp) elt fe)
    (hc : M.cp = none ∨ 0 ∉ own.map (·.2)) (his : ∀ i ∈ is, i ∈ own.map (·.2)) (hs : ∀ x, foldedSetIterable iter X.env x = pure x := by intro _; rfl) :
    PN M W X (.ListComp elt [⟨tg, iter, ifs, 0⟩] scope pos) (eComp (own.map (·.2)) src tgt ft fe) := by
  obtain ⟨wi, ei, qi⟩ := hi
  exact ⟨_, pe_lc c.calm c.nd ei (blkOk_by ok) (fun s H C cl fp => (hg s H C cl fp (c.blk ..)).pg) (fun s H C cl fp => ht s H C cl fp (c.blk ..)) (fun s H C cl fp => (he s H C cl fp (c.blk ..)).pe) hs, tr_lc qi hc his⟩
end
end PL
/-! PL, part h: statements. -/
namespace PL
open PySem PySem.Spec PyProof.Rows L2

inductive Out where
  | nx (ε : Ev) | rt (d : D) (ε : Ev) | bk (ε : Ev) | ct (ε : Ev) | err (c : Nat) | stuck

def PostS (M : Fr) (W : WX) (σ : St) (G H : Hp) (ε : Ev) (r : Out) (E : Ends) : Prop :=
  match r with
  | .nx ε' => ∀ σ' G' H', SR M G' H' σ' ε' → Step G H (Own σ ε) G' H' (Own σ' ε') → E.nx σ' H'
  | .bk ε' => ∀ σ' G' H', SR M G' H' σ' ε' → Step G H (Own σ ε) G' H' (Own σ' ε') → E.bk σ' H'
  | .ct ε' => ∀ σ' G' H', SR M G' H' σ' ε' → Step G H (Own σ ε) G' H' (Own σ' ε') → E.ct σ' H'
  | .rt d ε' => ∀ v σ' G' H', SR M G' H' σ' ε' → Step G H (Own σ ε) G' H' (Own σ' ε') → Rp M.F G' d v → E.rt v H'
  | .err c => ErrOk M W G H (Own σ ε) c
  | .stuck => False
theorem PostS.shift {M : Fr} {W : WX} {σ σ1 : St} {G H G1 H1 : Hp} {ε ε1 : Ev} {r : Out} {E : Ends} (s1 : SR M G1 H1 σ1 ε1) (st : Step G H (Own σ ε) G1 H1 (Own σ1 ε1)) (h : PostS M W σ G H ε r E) : PostS M W σ1 G1 H1 ε1 r E := by
  cases r with
  | nx ε' => exact fun σ' G' H' s t => h σ' G' H' s (st.trans s1.sub t)
  | bk ε' => exact fun σ' G' H' s t => h σ' G' H' s (st.trans s1.sub t)
  | ct ε' => exact fun σ' G' H' s t => h σ' G' H' s (st.trans s1.sub t)
  | rt d ε' => exact fun v σ' G' H' s t => h v σ' G' H' s (st.trans s1.sub t)
  | err c => exact ErrOk.shift s1.sub st h
  | stuck => exact h
def TrS (M : Fr) (W : WX) (t : TS) (f : Ev → Out) : Prop := ∀ (σ : St) (G H : Hp) (ε : Ev), SR M G H σ ε → ∀ E : Ends, PostS M W σ G H ε (f ε) E → t E σ H
def PS' (M : Fr) (W : WX) (X : Cx) (st : Stmt) (f : Ev → Out) : Prop := ∃ t, PS X st t ∧ TrS M W t f
def PSs' (M : Fr) (W : WX) (X : Cx) (st : List Stmt) (f : Ev → Out) : Prop := ∃ t, PSs X st t ∧ TrS M W t f

@[reducible, simp] def Out.andThen (r : Out) (g : Ev → Out) : Out := match r with
  | .nx ε => g ε
  | r => r
@[reducible, simp] def sSeq (f g : Ev → Out) : Ev → Out := fun ε => (f ε).andThen g
@[reducible, simp] def Res.out {α : Type} (r : Res α) (g : α → Out) : Out := match r with
  | .ok a => g a
  | .err c => .err c
  | .stuck => .stuck
@[reducible, simp] def sDrop (f : Ev → Res (D × Ev)) : Ev → Out := fun ε => (f ε).out fun p => .nx p.2
@[reducible, simp] def sRet (f : Ev → Res (D × Ev)) : Ev → Out := fun ε => (f ε).out fun p => .rt p.1 p.2
@[reducible, simp] def sIf (c : Ev → Res (Bool × Ev)) (f g : Ev → Out) : Ev → Out := fun ε => (c ε).out fun p => if p.1 then f p.2 else g p.2
@[reducible, simp] def sTg (tgt : D → Ev → Res Ev) (f : Ev → Res (D × Ev)) : Ev → Out := fun ε => (f ε).out fun p => (tgt p.1 p.2).ne.out fun ε' => .nx ε'
@[reducible, simp] def sOwn (i : Nat) (f : Ev → Res (List D × Ev)) : Ev → Out := fun ε => (f ε).out fun p => if i < p.2.length then .nx (p.2.set i (.ow p.1)) else .stuck

section
variable {M : Fr} {W : WX} {X : Cx} {k : Nat} {e : Expr} {st : Stmt} {rest : List Stmt} {f g : Ev → Out} {fe : Ev → Res (D × Ev)} {pos : Pos}
theorem pss_nil' : PSs' M W X [] (fun ε => .nx ε) := ⟨_, pss_nil, fun σ G H ε s E hp => hp σ G H s (Step.refl ..)⟩
theorem pss_cons' (h1 : PS' M W X st f) (h2 : PSs' M W X rest g) : PSs' M W X (st :: rest) (sSeq f g) := by
  obtain ⟨t, et, qt⟩ := h1
  obtain ⟨u, eu, qu⟩ := h2
  refine ⟨_, pss_cons et eu, fun σ G H ε s E hp => ?_⟩
  refine qt σ G H ε s _ ?_
  cases e : f ε with
  | nx ε' =>
    simp only [sSeq, e, Out.andThen] at hp
    intro σ' G' H' s' st'
    exact qu σ' G' H' ε' s' E (hp.shift s' st')
  | bk ε' => simp only [sSeq, e, Out.andThen] at hp; exact hp
  | ct ε' => simp only [sSeq, e, Out.andThen] at hp; exact hp
  | rt d ε' => simp only [sSeq, e, Out.andThen] at hp; exact hp
  | err c => simp only [sSeq, e, Out.andThen] at hp; exact hp
  | stuck => simp only [sSeq, e, Out.andThen] at hp; exact hp
theorem pss_one' (h1 : PS' M W X st f) : PSs' M W X [st] f := by
  obtain ⟨t, et, qt⟩ := h1
  exact ⟨_, pss_one et, qt⟩
theorem ps_pass' : PS' M W X (.Pass pos) (fun ε => .nx ε) := ⟨_, ps_pass, fun σ G H ε s E hp => hp σ G H s (Step.refl ..)⟩
theorem ps_break' : PS' M W X (.Break pos) (fun ε => .bk ε) := ⟨_, ps_break, fun σ G H ε s E hp => hp σ G H s (Step.refl ..)⟩
theorem ps_continue' : PS' M W X (.Continue pos) (fun ε => .ct ε) := ⟨_, ps_continue, fun σ G H ε s E hp => hp σ G H s (Step.refl ..)⟩
/-- a value, then what is done with it -/
theorem trS_val {α β : Type} {R : Hp → β → α → Prop} {t : St → Hp → (α → Hp → Prop) → Prop} {fv : Ev → Res (β × Ev)} (ht : Tr M W R t fv) {u : α → TS} {go : β → Ev → Out}
    (h : ∀ b a σ G H ε, SR M G H σ ε → R G b a → ∀ E, PostS M W σ G H ε (go b ε) E → u a E σ H) : TrS M W (fun E σ H => t σ H fun a H1 => u a E σ H1) (fun ε => (fv ε).out fun p => go p.1 p.2) := by
  intro σ G H ε s E hp
  refine ht σ G H ε s _ ?_
  cases e : fv ε with
  | stuck => simp only [e, Res.out] at hp; exact hp
  | err c => simp only [e, Res.out] at hp; exact hp
  | ok p =>
    simp only [e, Res.out] at hp
    intro a G' H' s' st' r
    exact h p.1 a σ G' H' p.2 s' r E (hp.shift s' st')
theorem ps_expr' (he : PV M W X e fe) (hs : swapsWith e none pos.line X.env = pure false := by rfl) : PS' M W X (.Expr e pos) (sDrop fe) := by
  obtain ⟨t, et, qt⟩ := he
  refine ⟨_, ps_expr et hs, trS_val (go := fun _ ε => .nx ε) (u := fun _ E σ H => E.nx σ H) qt ?_⟩
  intro d v σ G H ε s r E hp
  exact hp σ G H s (Step.refl ..)
theorem ps_ret' (he : PV M W X e fe) : PS' M W X (.Return (some e) pos) (sRet fe) := by
  obtain ⟨t, et, qt⟩ := he
  refine ⟨_, ps_ret et, trS_val (go := fun d ε => .rt d ε) (u := fun v E _ H => E.rt v H) qt ?_⟩
  intro d v σ G H ε s r E hp
  exact hp v σ G H s (Step.refl ..) r
theorem ps_retN' : PS' M W X (.Return none pos) (fun ε => .rt .non ε) := ⟨_, ps_retN, fun σ G H ε s E hp => hp .non σ G H s (Step.refl ..) (rp_non.mpr rfl)⟩
theorem ps_if' {c : Expr} {a b : List Stmt} {fc : Ev → Res (Bool × Ev)} (hc : PB M W X c fc) (ha : PSs' M W X a f) (hb : PSs' M W X b g) : PS' M W X (.If c a b pos) (sIf fc f g) := by
  obtain ⟨t, et, qt⟩ := hc
  obtain ⟨u, eu, qu⟩ := ha
  obtain ⟨w, ew, qw⟩ := hb
  refine ⟨_, ps_if et eu ew, trS_val (go := fun b ε => if b then f ε else g ε) (u := fun b E σ H => if b = true then u E σ H else w E σ H) qt ?_⟩
  intro b b' σ G H ε s r E hp
  simp only [RB] at r
  subst r
  cases b with
  | true => exact qu σ G H ε s E hp
  | false => exact qw σ G H ε s E hp

/-! ### stores -/
theorem ps_tg' {tg : Expr} {tgt : D → Ev → Res Ev} {is : List Nat} (he : PV M W X e fe) (hg : PTg M X tg tgt is) (hs : swapsWithSole [tg] e pos.line X.env = pure false := by rfl) (hw : swappedStores [tg] e X.env = pure none := by rfl)
    (h1 : (assignEach [tg] X.env).map (·.2) = [assign tg X.env] := by rfl) : PS' M W X (.Assign [tg] e pos) (sTg tgt fe) := by
  obtain ⟨t, et, qt⟩ := he
  obtain ⟨g, eg, qg⟩ := hg
  refine ⟨_, ps_asg et eg hs hw h1, trS_val (go := fun d ε => (tgt d ε).ne.out fun ε' => .nx ε') (u := fun v E σ H => g v σ H E.nx) qt ?_⟩
  intro d v σ G H ε s r E hp
  cases e1 : tgt d ε with
  | stuck => simp only [e1, Res.ne, Res.out] at hp; exact hp.elim
  | err c => simp only [e1, Res.ne, Res.out] at hp; exact hp.elim
  | ok ε' =>
    simp only [e1, Res.ne, Res.out] at hp
    exact qg d v σ G H ε ε' s r e1 _ fun σ' s' o' _ _ => hp σ' G H s' ⟨fun _ _ h => h, fun _ _ h _ _ => h, fun _ h => h, fun _ _ h => .inl h, fun q z => .inl (o' q z)⟩
theorem trS_setName {i : Nat} {te : TE} (qt : Tr M W (Rp M.F) te fe) (hc : M.cp = none ∨ i ≠ 0) : TrS M W (tAsg te (gName i)) (sTg (tName i) fe) := by
  refine trS_val (go := fun d ε => (tName i d ε).ne.out fun ε' => .nx ε') (u := fun v E σ H => gName i v σ H E.nx) qt ?_
  intro d v σ G H ε s r E hp
  simp only [tName] at hp
  split at hp
  · rename_i hl
    obtain ⟨s2, o⟩ := s.setPu hl r hc
    exact hp _ G H s2 ⟨fun _ _ h => h, fun _ _ h _ _ => h, fun _ h => h, fun _ _ h => .inl h, fun q z => .inl (o q z)⟩
  · exact hp.elim
theorem ps_set' (c : CO M W k X) {i : Nat} {x : Str} {pos' : Pos} (he : PV M W X e fe) (hc : M.cp = none ∨ i ≠ 0) (hi : X.N[i]? = some x := by rfl) (hx : Loc X.env.scope x := by first | exact Or.inl rfl | exact Or.inr rfl)
    (hs : swapsWith e (some (.Name x pos')) pos.line X.env = pure false := by rfl) (hf : X.fn x = true ∨ X.env.scope.names.lookup x = some .local := by first | exact .inl rfl | exact .inr rfl | assumption) :
    PS' M W X (.Assign [.Name x pos'] e pos) (sTg (tName i) fe) := by
  obtain ⟨t, et, qt⟩ := he
  exact ⟨_, ps_set c.nd hi hx et hs hf, trS_setName qt hc⟩

/-- a slot's new content: a known value, or a list of its own -/
def NewOk (F : Fx) (G H : Hp) (O : Addr → Prop) : Slot → V → Prop
  | .em, _ => False
  | .pu d, v => Rp F G d v
  | .ow ds, v => ∃ p vs, v = .ref p ∧ G p = none ∧ H p = some (.lst vs) ∧ RpL F G ds vs ∧ ¬ O p
theorem SR.setNew {G H : Hp} {σ : St} {ε : Ev} (s : SR M G H σ ε) {i : Nat} {x : Slot} {v : V} (hi : i < ε.length) (r : NewOk M.F G H (Own σ ε) x v) (hc : M.cp = none ∨ i ≠ 0) :
    SR M G H (σ.set i (some v)) (ε.set i x) ∧ ∀ q, Own (σ.set i (some v)) (ε.set i x) q → Own σ ε q ∨ ((∃ ds, x = .ow ds) ∧ v = .ref q) := by
  cases x with
  | em => exact r.elim
  | pu d =>
    obtain ⟨a, b⟩ := s.setPu hi r hc
    exact ⟨a, fun q z => .inl (b q z)⟩
  | ow es =>
    obtain ⟨p, vs, rfl, gp, hp, rl, no⟩ := r
    have hσ : i < σ.length := by rw [← s.len]; exact hi
    have old : ∀ (j : Nat), j ≠ i → (σ.set i (some (V.ref p)))[j]? = σ[j]? ∧ (ε.set i (.ow es))[j]? = ε[j]? := fun j hj => ⟨List.getElem?_set_ne (Ne.symm hj), List.getElem?_set_ne (Ne.symm hj)⟩
    refine ⟨⟨s.sub, s.ntb, s.tabs, by rw [List.length_set, List.length_set]; exact s.len, fun j x o e1 e2 => ?_, fun j l ds ds' q e1 e2 e3 e4 => ?_, fun p' hp' => ?_⟩, fun q ⟨j, ds, e1, e2⟩ => ?_⟩
    · by_cases hj : j = i
      · subst hj
        rw [List.getElem?_set_self hi] at e1
        rw [List.getElem?_set_self hσ] at e2
        cases e1
        cases e2
        exact ⟨p, vs, rfl, gp, hp, rl⟩
      · rw [(old j hj).2] at e1
        rw [(old j hj).1] at e2
        exact s.slots j x o e1 e2
    · by_cases hj : j = i
      · by_cases hl : l = i
        · rw [hj, hl]
        · subst hj
          rw [List.getElem?_set_self hσ] at e3
          cases e3
          rw [(old l hl).2] at e2
          rw [(old l hl).1] at e4
          exact (no ⟨l, ds', e2, e4⟩).elim
      · by_cases hl : l = i
        · subst hl
          rw [List.getElem?_set_self hσ] at e4
          cases e4
          rw [(old j hj).2] at e1
          rw [(old j hj).1] at e3
          exact (no ⟨j, ds, e1, e3⟩).elim
        · rw [(old j hj).2] at e1
          rw [(old j hj).1] at e3
          rw [(old l hl).2] at e2
          rw [(old l hl).1] at e4
          exact s.inj j l ds ds' q e1 e2 e3 e4
    · obtain ⟨a, ds, b⟩ := s.cup p' hp'
      have h0 : (0 : Nat) ≠ i := fun e => by
        rcases hc with z | z
        · rw [z] at hp'; cases hp'
        · exact z e.symm
      rw [(old 0 h0).1, (old 0 h0).2]
      exact ⟨a, ds, b⟩
    · by_cases hj : j = i
      · subst hj
        rw [List.getElem?_set_self hσ] at e2
        cases e2
        exact .inr ⟨⟨es, rfl⟩, rfl⟩
      · rw [(old j hj).2] at e1
        rw [(old j hj).1] at e2
        exact .inl ⟨j, ds, e1, e2⟩
theorem trS_setOwn {i : Nat} {te : TE} {fn : Ev → Res (List D × Ev)} (qt : TrN M W te fn) (hc : M.cp = none ∨ i ≠ 0) : TrS M W (tAsg te (gName i)) (sOwn i fn) := by
  intro σ G H ε s E hp
  refine qt σ G H ε s _ ?_
  simp only [sOwn] at hp
  cases e : fn ε with
  | stuck => simp only [e, Res.out] at hp; exact hp
  | err c => simp only [e, Res.out] at hp; exact hp
  | ok p =>
    simp only [e, Res.out] at hp
    split at hp
    · rename_i hl
      intro a vs G' H' s' st' gp hp' rl nh no
      obtain ⟨s2, o⟩ := s'.setNew (x := .ow p.1) (v := .ref a) hl ⟨a, vs, rfl, gp, hp', rl, no⟩ hc
      refine hp _ G' H' s2 ⟨st'.gg, st'.hh, st'.hs, st'.gn, fun q z => ?_⟩
      rcases o q z with y | ⟨_, y⟩
      · exact st'.oo q y
      · cases y; exact .inr nh
    · exact hp.elim
theorem ps_own' (c : CO M W k X) {i : Nat} {x : Str} {pos' : Pos} {fn : Ev → Res (List D × Ev)} (he : PN M W X e fn) (hc : M.cp = none ∨ i ≠ 0) (hi : X.N[i]? = some x := by rfl) (hx : Loc X.env.scope x := by first | exact Or.inl rfl | exact Or.inr rfl)
    (hs : swapsWith e (some (.Name x pos')) pos.line X.env = pure false := by rfl) (hf : X.fn x = true ∨ X.env.scope.names.lookup x = some .local := by first | exact .inl rfl | exact .inr rfl | assumption) :
    PS' M W X (.Assign [.Name x pos'] e pos) (sOwn i fn) := by
  obtain ⟨t, et, qt⟩ := he
  exact ⟨_, ps_set c.nd hi hx et hs hf, trS_setOwn qt hc⟩
/-! name = [.. for ..] on one line -/
section
variable {elt tg iter : Expr} {ifs : List Expr} {scope : Scope} {own : List (Str × Nat)} {spos py : Pos} {src : Ev → Res (List D × Ev)} {tgt : D → Ev → Res Ev} {is : List Nat} {ft : Ev → Res (Bool × Ev)} {fc : Ev → Res (D × Ev)}
theorem ps_lcAny (c : CO M W k X) {i : Nat} {y : Str} (hi : PIt M W X tg iter src) (ok : blkC X.N X.env.scope scope own = true)
    (hg : ∀ (s : Shared) (H : Hp) (C : Addr) (cl : List (Str × Addr)) (fp : List Addr), CO M W0 k (X.blk s H scope (compEnvC scope cl C X.env) fp) → PTg M (X.blk s H scope (compEnvC scope cl C X.env) fp) tg tgt is)
    (ht : ∀ (s : Shared) (H : Hp) (C : Addr) (cl : List (Str × Addr)) (fp : List Addr), CO M W0 k (X.blk s H scope (compEnvC scope cl C X.env) fp) → PTs' M W0 (X.blk s H scope (compEnvC scope cl C X.env) fp) ifs ft)
    (he : ∀ (s : Shared) (H : Hp) (C : Addr) (cl : List (Str × Addr)) (fp : List Addr), CO M W0 k (X.blk s H scope (compEnvC scope cl C X.env) fp) → PV M W0 (X.blk s H scope (compEnvC scope cl C X.env) fp) elt fc)
    (hcc : M.cp = none ∨ 0 ∉ own.map (·.2)) (his : ∀ i ∈ is, i ∈ own.map (·.2)) (hy : X.N[i]? = some y) (hyl : X.env.scope.names.lookup y = some .local)
    (hsw : swapsWith (.ListComp elt [⟨tg, iter, ifs, 0⟩] scope pos) (some (.Name y py)) spos.line X.env = pure true) (hs : ∀ x, foldedSetIterable iter X.env x = pure x := by intro _; rfl) :
    ∃ t, PS X (.Assign [.Name y py] (.ListComp elt [⟨tg, iter, ifs, 0⟩] scope pos) spos) (tAsg t (gName i)) ∧ TrN M W t (eComp (own.map (·.2)) src tgt ft fc) := by
  obtain ⟨wi, ei, qi⟩ := hi
  exact ⟨_, ps_setLc c.calm c.nd hy hyl hsw ei (blkOk_by ok) (fun s H C cl fp => (hg s H C cl fp (c.blk ..)).pg) (fun s H C cl fp => ht s H C cl fp (c.blk ..)) (fun s H C cl fp => (he s H C cl fp (c.blk ..)).pe) hs, tr_lc qi hcc his⟩
theorem ps_setLc' (c : CO M W k X) {i : Nat} {y : Str} (hi : PIt M W X tg iter src) (ok : blkC X.N X.env.scope scope own = true)
    (hg : ∀ (s : Shared) (H : Hp) (C : Addr) (cl : List (Str × Addr)) (fp : List Addr), CO M W0 k (X.blk s H scope (compEnvC scope cl C X.env) fp) → PTg M (X.blk s H scope (compEnvC scope cl C X.env) fp) tg tgt is)
    (ht : ∀ (s : Shared) (H : Hp) (C : Addr) (cl : List (Str × Addr)) (fp : List Addr), CO M W0 k (X.blk s H scope (compEnvC scope cl C X.env) fp) → PTs' M W0 (X.blk s H scope (compEnvC scope cl C X.env) fp) ifs ft)
    (he : ∀ (s : Shared) (H : Hp) (C : Addr) (cl : List (Str × Addr)) (fp : List Addr), CO M W0 k (X.blk s H scope (compEnvC scope cl C X.env) fp) → PV M W0 (X.blk s H scope (compEnvC scope cl C X.env) fp) elt fc)
    (hcc : M.cp = none ∨ 0 ∉ own.map (·.2)) (his : ∀ i ∈ is, i ∈ own.map (·.2)) (hc : M.cp = none ∨ i ≠ 0) (hy : X.N[i]? = some y := by rfl) (hyl : X.env.scope.names.lookup y = some .local := by rfl)
    (hsw : swapsWith (.ListComp elt [⟨tg, iter, ifs, 0⟩] scope pos) (some (.Name y py)) spos.line X.env = pure true := by exact sw_true rfl rfl rfl (by decide +kernel)) (hs : ∀ x, foldedSetIterable iter X.env x = pure x := by intro _; rfl) :
    PS' M W X (.Assign [.Name y py] (.ListComp elt [⟨tg, iter, ifs, 0⟩] scope pos) spos) (sTg (tName i) (eL (eComp (own.map (·.2)) src tgt ft fc))) := by
  obtain ⟨t, et, qt⟩ := ps_lcAny (i := i) (py := py) (spos := spos) c hi ok hg ht he hcc his hy hyl hsw hs
  exact ⟨_, et, trS_setName qt.tr hc⟩
theorem ps_ownLc' (c : CO M W k X) {i : Nat} {y : Str} (hi : PIt M W X tg iter src) (ok : blkC X.N X.env.scope scope own = true)
    (hg : ∀ (s : Shared) (H : Hp) (C : Addr) (cl : List (Str × Addr)) (fp : List Addr), CO M W0 k (X.blk s H scope (compEnvC scope cl C X.env) fp) → PTg M (X.blk s H scope (compEnvC scope cl C X.env) fp) tg tgt is)
    (ht : ∀ (s : Shared) (H : Hp) (C : Addr) (cl : List (Str × Addr)) (fp : List Addr), CO M W0 k (X.blk s H scope (compEnvC scope cl C X.env) fp) → PTs' M W0 (X.blk s H scope (compEnvC scope cl C X.env) fp) ifs ft)
    (he : ∀ (s : Shared) (H : Hp) (C : Addr) (cl : List (Str × Addr)) (fp : List Addr), CO M W0 k (X.blk s H scope (compEnvC scope cl C X.env) fp) → PV M W0 (X.blk s H scope (compEnvC scope cl C X.env) fp) elt fc)
    (hcc : M.cp = none ∨ 0 ∉ own.map (·.2)) (his : ∀ i ∈ is, i ∈ own.map (·.2)) (hc : M.cp = none ∨ i ≠ 0) (hy : X.N[i]? = some y := by rfl) (hyl : X.env.scope.names.lookup y = some .local := by rfl)
    (hsw : swapsWith (.ListComp elt [⟨tg, iter, ifs, 0⟩] scope pos) (some (.Name y py)) spos.line X.env = pure true := by exact sw_true rfl rfl rfl (by decide +kernel)) (hs : ∀ x, foldedSetIterable iter X.env x = pure x := by intro _; rfl) :
    PS' M W X (.Assign [.Name y py] (.ListComp elt [⟨tg, iter, ifs, 0⟩] scope pos) spos) (sOwn i (eComp (own.map (·.2)) src tgt ft fc)) := by
  obtain ⟨t, et, qt⟩ := ps_lcAny (i := i) (py := py) (spos := spos) c hi ok hg ht he hcc his hy hyl hsw hs
  exact ⟨_, et, trS_setOwn qt hc⟩
end
end

/-! ### a, b = e1, e2 -/
def PSl (M : Fr) (W : WX) (X : Cx) (e : Expr) (f : Ev → Res (Slot × Ev)) : Prop := ∃ t, PE X e t ∧ ∀ (σ : St) (G H : Hp) (ε : Ev), SR M G H σ ε → ∀ Q : VK,
  (match f ε with
    | .ok p => ∀ v G' H', SR M G' H' σ p.2 → Step G H (Own σ ε) G' H' (Own σ p.2) → NewOk M.F G' H' (Own σ p.2) p.1 v → (∀ ds q, p.1 = .ow ds → v = .ref q → H q = none) → Q v H'
    | .err c => ErrOk M W G H (Own σ ε) c
    | .stuck => False) → t σ H Q
@[reducible, simp] def slP (f : Ev → Res (D × Ev)) : Ev → Res (Slot × Ev) := fun ε => (f ε).bind fun p => .ok (.pu p.1, p.2)
@[reducible, simp] def slN (f : Ev → Res (List D × Ev)) : Ev → Res (Slot × Ev) := fun ε => (f ε).bind fun p => .ok (.ow p.1, p.2)
section
variable {M : Fr} {W : WX} {X : Cx} {k : Nat} {e a b c₀ : Expr} {st : Stmt} {rest : List Stmt} {f g : Ev → Out} {fe : Ev → Res (D × Ev)} {pos : Pos}
theorem psl_p (h : PV M W X e fe) : PSl M W X e (slP fe) := by
  obtain ⟨t, et, q⟩ := h
  refine ⟨t, et, fun σ G H ε s Q hp => q σ G H ε s Q ?_⟩
  simp only [slP] at hp
  cases e1 : fe ε with
  | stuck => rw [e1] at hp; exact hp
  | err c => rw [e1] at hp; exact hp
  | ok p =>
    rw [e1] at hp
    exact fun v G' H' s' st' r => hp v G' H' s' st' r (fun ds q z => by cases z)
theorem psl_n {fn : Ev → Res (List D × Ev)} (h : PN M W X e fn) : PSl M W X e (slN fn) := by
  obtain ⟨t, et, q⟩ := h
  refine ⟨t, et, fun σ G H ε s Q hp => q σ G H ε s Q ?_⟩
  simp only [slN] at hp
  cases e1 : fn ε with
  | stuck => rw [e1] at hp; exact hp
  | err c => rw [e1] at hp; exact hp
  | ok p =>
    rw [e1] at hp
    exact fun a vs G' H' s' st' gp hp' rl nh no => hp (.ref a) G' H' s' st' ⟨a, vs, rfl, gp, hp', rl, no⟩ (fun ds q _ z => by cases z; exact nh)
/-- what is new stays new behind a further step -/
theorem NewOk.step {G H G' H' : Hp} {σ : St} {ε ε' : Ev} {x : Slot} {v : V} (r : NewOk M.F G H (Own σ ε) x v) (s' : SR M G' H' σ ε') (st : Step G H (Own σ ε) G' H' (Own σ ε')) : NewOk M.F G' H' (Own σ ε') x v := by
  cases x with
  | em => exact r
  | pu d => exact r.mono st.gg
  | ow ds =>
    obtain ⟨p, vs, rfl, gp, hp, rl, no⟩ := r
    refine ⟨p, vs, rfl, ?_, st.hh _ _ hp (fun ps z => by cases z) no, rl.mono st.gg, fun z => ?_⟩
    · cases q : G' p with
      | none => rfl
      | some u =>
        rcases st.gn p u q with z | z | z
        · rw [gp] at z; cases z
        · rw [hp] at z; cases z
        · exact (no z).elim
    · rcases st.oo p z with y | y
      · exact no y
      · rw [hp] at y; cases y
@[reducible, simp] def sPar2 (i j : Nat) (fa fb : Ev → Res (Slot × Ev)) : Ev → Out := fun ε => (fa ε).out fun p => (fb p.2).out fun q =>
  if i < q.2.length ∧ j < q.2.length then .nx ((q.2.set i p.1).set j q.1) else .stuck
theorem ps_par2' (c : CO M W k X) {i j : Nat} {x y : Str} {px py pt : Pos} {kt k2 pt2} {fa fb : Ev → Res (Slot × Ev)} (ha : PSl M W X a fa) (hb : PSl M W X b fb) (hci : M.cp = none ∨ i ≠ 0) (hcj : M.cp = none ∨ j ≠ 0) (hij : i ≠ j)
    (hi : X.N[i]? = some x := by rfl) (hj : X.N[j]? = some y := by rfl) (hx : X.env.scope.names.lookup x = some .local := by rfl) (hy : X.env.scope.names.lookup y = some .local := by rfl)
    (h1 : starEach [a, b] X.env = (false, eval a X.env) :: starEach [b] X.env := by rfl) (h2 : starEach [b] X.env = (false, eval b X.env) :: starEach [] X.env := by rfl)
    (hw : swappedStores [.Tuple [.Name x px, .Name y py] kt pt] (.Tuple [a, b] k2 pt2) X.env = pure (some [x, y]) := by rfl)
    (hs : swapsWithSole [.Tuple [.Name x px, .Name y py] kt pt] (.Tuple [a, b] k2 pt2) pos.line X.env = pure false := by rfl) :
    PS' M W X (.Assign [.Tuple [.Name x px, .Name y py] kt pt] (.Tuple [a, b] k2 pt2) pos) (sPar2 i j fa fb) := by
  obtain ⟨ta, ea, qa⟩ := ha
  obtain ⟨tb, eb, qb⟩ := hb
  refine ⟨_, ps_par c.calm c.nd hi hj hij hx hy (L2.pa_cons ea (L2.pa_cons eb L2.pa_nil h2) h1) hw hs, fun σ G H ε s E hp => ?_⟩
  refine qa σ G H ε s _ ?_
  simp only [sPar2] at hp
  cases e1 : fa ε with
  | stuck => simp only [e1, Res.out] at hp; exact hp
  | err c => simp only [e1, Res.out] at hp; exact hp
  | ok p =>
    simp only [e1, Res.out] at hp
    intro v G1 H1 s1 st1 r1 n1
    refine qb σ G1 H1 p.2 s1 _ ?_
    cases e2 : fb p.2 with
    | stuck => simp only [e2, Res.out] at hp; exact hp
    | err c => simp only [e2, Res.out] at hp; exact ErrOk.shift s1.sub st1 hp
    | ok q =>
      simp only [e2, Res.out] at hp
      split at hp
      · rename_i hl
        intro w G2 H2 s2 st2 r2 n2
        have st := st1.trans s1.sub st2
        have r1' := r1.step s2 st2
        obtain ⟨s3, o3⟩ := s2.setNew hl.1 r1' hci
        have r2' : NewOk M.F G2 H2 (Own (σ.set i (some v)) (q.2.set i p.1)) q.1 w := by
          cases hq : q.1 with
          | em => rw [hq] at r2; exact r2
          | pu d => rw [hq] at r2; exact r2
          | ow ds =>
            rw [hq] at r2
            obtain ⟨a2, vs2, rfl, g2, h2', l2, no2⟩ := r2
            refine ⟨a2, vs2, rfl, g2, h2', l2, fun z => ?_⟩
            rcases o3 a2 z with y | ⟨⟨ds1, y⟩, y2⟩
            · exact no2 y
            · have hn2 := n2 ds a2 hq rfl
              rw [y] at r1
              obtain ⟨a1, vs1, e, _, h1', _⟩ := r1
              rw [y2] at e
              cases e
              rw [h1'] at hn2; cases hn2
        obtain ⟨s4, o4⟩ := s3.setNew (i := j) (by rw [List.length_set]; exact hl.2) r2' hcj
        refine ⟨v, w, rfl, hp _ G2 H2 s4 ⟨st.gg, st.hh, st.hs, st.gn, fun z hz => ?_⟩⟩
        rcases o4 z hz with y | ⟨⟨ds, y⟩, y2⟩
        · rcases o3 z y with y | ⟨⟨ds, y⟩, y2⟩
          · exact st.oo z y
          · exact .inr (n1 ds z y y2)
        · exact .inr (st1.hs z (n2 ds z y y2))
      · exact hp.elim
@[reducible, simp] def sPar3 (i j l : Nat) (fa fb fc : Ev → Res (Slot × Ev)) : Ev → Out := fun ε => (fa ε).out fun p => (fb p.2).out fun q => (fc q.2).out fun r =>
  if i < r.2.length ∧ j < r.2.length ∧ l < r.2.length then .nx (((r.2.set i p.1).set j q.1).set l r.1) else .stuck
theorem NewOk.set {G H : Hp} {σ σ' : St} {ε ε' : Ev} {x y : Slot} {v w : V} (r : NewOk M.F G H (Own σ ε) y w) (o : ∀ q, Own σ' ε' q → Own σ ε q ∨ ((∃ ds, x = .ow ds) ∧ v = .ref q)) (ne : ∀ ds es q, y = .ow ds → w = .ref q → x = .ow es → v = .ref q → False) : NewOk M.F G H (Own σ' ε') y w := by
  cases hy : y with
  | em => rw [hy] at r; exact r
  | pu d => rw [hy] at r; exact r
  | ow ds =>
    rw [hy] at r
    obtain ⟨a, vs, rfl, g, h, l, no⟩ := r
    refine ⟨a, vs, rfl, g, h, l, fun z => ?_⟩
    rcases o a z with q | ⟨⟨es, q⟩, q2⟩
    · exact no q
    · exact ne ds es a hy rfl q q2
theorem NewOk.there {G H : Hp} {O : Addr → Prop} {x : Slot} {v : V} (r : NewOk M.F G H O x v) {ds : List D} {q : Addr} (e : x = .ow ds) (e2 : v = .ref q) : H q ≠ none := by
  rw [e] at r
  obtain ⟨a, vs, e3, _, h, _⟩ := r
  rw [e2] at e3
  cases e3
  rw [h]
  exact fun z => by cases z
theorem ps_par3' (c : CO M W k X) {i j l : Nat} {x y z : Str} {px py pz pt : Pos} {kt k2 pt2} {fa fb fc : Ev → Res (Slot × Ev)} (ha : PSl M W X a fa) (hb : PSl M W X b fb) (hcx : PSl M W X c₀ fc) (hci : M.cp = none ∨ i ≠ 0) (hcj : M.cp = none ∨ j ≠ 0) (hcl : M.cp = none ∨ l ≠ 0) (hij : i ≠ j) (hil : i ≠ l) (hjl : j ≠ l)
    (hi : X.N[i]? = some x := by rfl) (hj : X.N[j]? = some y := by rfl) (hl : X.N[l]? = some z := by rfl) (hx : X.env.scope.names.lookup x = some .local := by rfl) (hy : X.env.scope.names.lookup y = some .local := by rfl) (hz : X.env.scope.names.lookup z = some .local := by rfl)
    (h1 : starEach [a, b, c₀] X.env = (false, eval a X.env) :: starEach [b, c₀] X.env := by rfl) (h2 : starEach [b, c₀] X.env = (false, eval b X.env) :: starEach [c₀] X.env := by rfl) (h3 : starEach [c₀] X.env = (false, eval c₀ X.env) :: starEach [] X.env := by rfl)
    (hw : swappedStores [.Tuple [.Name x px, .Name y py, .Name z pz] kt pt] (.Tuple [a, b, c₀] k2 pt2) X.env = pure (some [x, y, z]) := by rfl)
    (hs : swapsWithSole [.Tuple [.Name x px, .Name y py, .Name z pz] kt pt] (.Tuple [a, b, c₀] k2 pt2) pos.line X.env = pure false := by rfl) :
    PS' M W X (.Assign [.Tuple [.Name x px, .Name y py, .Name z pz] kt pt] (.Tuple [a, b, c₀] k2 pt2) pos) (sPar3 i j l fa fb fc) := by
  obtain ⟨ta, ea, qa⟩ := ha
  obtain ⟨tb, eb, qb⟩ := hb
  obtain ⟨tc, ec, qc⟩ := hcx
  refine ⟨_, ps_par3 c.calm c.nd hi hj hl hij hil hjl hx hy hz (L2.pa_cons ea (L2.pa_cons eb (L2.pa_cons ec L2.pa_nil h3) h2) h1) hw hs, fun σ G H ε s E hp => ?_⟩
  refine qa σ G H ε s _ ?_
  simp only [sPar3] at hp
  cases e1 : fa ε with
  | stuck => simp only [e1, Res.out] at hp; exact hp
  | err c => simp only [e1, Res.out] at hp; exact hp
  | ok p =>
    simp only [e1, Res.out] at hp
    intro v G1 H1 s1 st1 r1 n1
    refine qb σ G1 H1 p.2 s1 _ ?_
    cases e2 : fb p.2 with
    | stuck => simp only [e2, Res.out] at hp; exact hp
    | err c => simp only [e2, Res.out] at hp; exact ErrOk.shift s1.sub st1 hp
    | ok q =>
      simp only [e2, Res.out] at hp
      intro w G2 H2 s2 st2 r2 n2
      have st12 := st1.trans s1.sub st2
      refine qc σ G2 H2 q.2 s2 _ ?_
      cases e3 : fc q.2 with
      | stuck => simp only [e3, Res.out] at hp; exact hp
      | err c => simp only [e3, Res.out] at hp; exact ErrOk.shift s2.sub st12 hp
      | ok r =>
        simp only [e3, Res.out] at hp
        split at hp
        · rename_i hl
          intro u G3 H3 s3 st3 r3 n3
          have st := st12.trans s2.sub st3
          have r1a := r1.step s2 st2
          have r1' := r1a.step s3 st3
          have r2' := r2.step s3 st3
          obtain ⟨sA, oA⟩ := s3.setNew hl.1 r1' hci
          have r2A := r2'.set oA (fun ds es z h1 h2 h3 h4 => r1.there h3 h4 (n2 ds z h1 h2))
          have r3A := r3.set oA (fun ds es z h1 h2 h3 h4 => r1a.there h3 h4 (n3 ds z h1 h2))
          obtain ⟨sB, oB⟩ := sA.setNew (i := j) (by rw [List.length_set]; exact hl.2.1) r2A hcj
          have r3B := r3A.set oB (fun ds es z h1 h2 h3 h4 => r2.there h3 h4 (n3 ds z h1 h2))
          obtain ⟨sC, oC⟩ := sB.setNew (i := l) (by rw [List.length_set, List.length_set]; exact hl.2.2) r3B hcl
          refine ⟨v, w, u, rfl, hp _ G3 H3 sC ⟨st.gg, st.hh, st.hs, st.gn, fun z hz => ?_⟩⟩
          rcases oC z hz with y | ⟨⟨ds, y⟩, y2⟩
          · rcases oB z y with y | ⟨⟨ds, y⟩, y2⟩
            · rcases oA z y with y | ⟨⟨ds, y⟩, y2⟩
              · exact st.oo z y
              · exact .inr (n1 ds z y y2)
            · exact .inr (st1.hs z (n2 ds z y y2))
          · exact .inr (st12.hs z (n3 ds z y y2))
        · exact hp.elim
end
end PL
/-! PL, part i: owned lists written; loops; raise. -/
namespace PL
open PySem PySem.Spec PyProof.Rows L2

/-- an owned list has a new content -/
theorem SR.updOw {M : Fr} {G H : Hp} {σ : St} {ε : Ev} (s : SR M G H σ ε) {i : Nat} {ds es : List D} {p : Addr} {ws : List V} (e : ε[i]? = some (.ow ds)) (eσ : σ[i]? = some (some (.ref p))) (r : RpL M.F G es ws) :
    SR M G (upd H p (.lst ws)) σ (ε.set i (.ow es)) ∧ Step G H (Own σ ε) G (upd H p (.lst ws)) (Own σ (ε.set i (.ow es))) := by
  obtain ⟨p', vs, eσ', gp, hp, _⟩ := s.ow e
  rw [eσ] at eσ'
  cases eσ'
  have hi : i < ε.length := (List.getElem?_eq_some_iff.mp e).1
  have gne : ∀ q o, G q = some o → q ≠ p := fun q o h z => by rw [z, gp] at h; cases h
  have owp : Own σ ε p := ⟨i, ds, e, eσ⟩
  have old : ∀ j, j ≠ i → (ε.set i (.ow es))[j]? = ε[j]? := fun j hj => List.getElem?_set_ne (Ne.symm hj)
  have ownB : ∀ (j : Nat) (ds' : List D), (ε.set i (Slot.ow es))[j]? = some (Slot.ow ds') → ∃ ds'' : List D, ε[j]? = some (Slot.ow ds'') := fun j ds' e' => by
    by_cases hj : j = i
    · subst hj; exact ⟨ds, e⟩
    · rw [old j hj] at e'; exact ⟨ds', e'⟩
  have own : ∀ q, Own σ (ε.set i (.ow es)) q → Own σ ε q := fun q ⟨j, ds', e1, e2⟩ => by
    obtain ⟨ds'', e3⟩ := ownB j ds' e1
    exact ⟨j, ds'', e3, e2⟩
  refine ⟨⟨fun q o h => by rw [upd_ne (gne q o h)]; exact s.sub q o h, s.ntb, ?_, by rw [List.length_set]; exact s.len, fun j x o e1 e2 => ?_, fun j l d1 d2 q e1 e2 e3 e4 => ?_, fun q hq => ?_⟩, ⟨fun _ _ h => h, fun q o h _ nn => ?_, fun q h => ?_, fun _ _ h => .inl h, fun q z => .inl (own q z)⟩⟩
  · intro t ht
    obtain ⟨ps, h1, h2, h3⟩ := s.tabs t ht
    refine ⟨ps, ?_, h2, fun pos cv hc => ?_⟩
    · rw [upd_ne (fun z => by rw [z, hp] at h1; cases h1)]; exact h1
    · obtain ⟨cc, e1, e2⟩ := h3 pos cv hc
      refine ⟨cc, e1, ?_⟩
      rw [upd_ne (fun z => by rw [z, hp] at e2; unfold LamX.CodeO at e2; cases e2)]; exact e2
  · by_cases hj : j = i
    · subst hj
      rw [List.getElem?_set_self hi] at e1
      rw [eσ] at e2
      cases e1
      cases e2
      exact ⟨p, ws, rfl, gp, upd_same, r⟩
    · rw [old j hj] at e1
      have h := s.slots j x o e1 e2
      cases x with
      | em => trivial
      | pu d => exact h
      | ow d' =>
        obtain ⟨q, us, eq, n, hq, rr⟩ := h
        refine ⟨q, us, eq, n, ?_, rr⟩
        rw [upd_ne (fun z => hj (s.inj j i d' ds p e1 e (by rw [e2, eq, z]) eσ))]
        exact hq
  · obtain ⟨d1', f1⟩ := ownB j d1 e1
    obtain ⟨d2', f2⟩ := ownB l d2 e2
    exact s.inj j l d1' d2' q f1 f2 e3 e4
  · obtain ⟨a, d', b⟩ := s.cup q hq
    refine ⟨a, ?_⟩
    by_cases h0 : 0 = i
    · rw [← h0, List.getElem?_set_self (by omega)]; exact ⟨es, rfl⟩
    · rw [old 0 h0]; exact ⟨d', b⟩
  · rw [upd_ne (fun z => nn (by rw [z]; exact owp))]; exact h
  · unfold upd at h
    split at h
    · cases h
    · exact h

@[reducible, simp] def getOw (ε : Ev) (i : Nat) : Res (List D) := match ε[i]? with
  | some (.ow ds) => .ok ds
  | _ => .stuck
theorem getOw_ok {ε : Ev} {i : Nat} {ds : List D} (h : getOw ε i = .ok ds) : ε[i]? = some (.ow ds) := by
  unfold getOw at h
  split at h
  · rename_i e; cases h; exact e
  · cases h
theorem getOw_err {ε : Ev} {i c : Nat} : getOw ε i ≠ .err c := by
  unfold getOw
  split <;> exact fun h => by cases h
@[reducible, simp] def sAppend (i : Nat) (f : Ev → Res (D × Ev)) : Ev → Out := fun ε => (getOw ε i).out fun _ => (f ε).out fun p => (getOw p.2 i).out fun ds => if ds.length ≤ 1000000 then .nx (p.2.set i (.ow (ds ++ [p.1]))) else .stuck
@[reducible] def sSetIx (i : Nat) (fe fi : Ev → Res (D × Ev)) : Ev → Out := fun ε => (fe ε).out fun p => (getOw p.2 i).out fun _ => (fi p.2).out fun q => (getOw q.2 i).out fun ds =>
  match q.1 with
  | .int k => match ixN ds.length k with
    | some j => .nx (q.2.set i (.ow (ds.set j p.1)))
    | none => .stuck
  | _ => .stuck
@[reducible] def sPop (i : Nat) : Ev → Out := fun ε => (getOw ε i).out fun ds => match ds[ds.length - 1]? with
  | some _ => .nx (ε.set i (.ow ds.dropLast))
  | none => .stuck
theorem RpL.dropLast {F : Fx} {G : Hp} {ds : List D} {vs : List V} (l : RpL F G ds vs) : RpL F G ds.dropLast vs.dropLast := by
  rw [List.dropLast_eq_take, List.dropLast_eq_take, l.length]
  exact l.take _
theorem ixN_lt {n : Nat} {k : Int} {j : Nat} (h : ixN n k = some j) : j < n := (ixN_seq h).2.1
section
variable {M : Fr} {W : WX} {X : Cx} {k : Nat} {e : Expr} {st : Stmt} {rest : List Stmt} {f g : Ev → Out} {fe fi : Ev → Res (D × Ev)} {pos : Pos}
theorem ps_append' {i : Nat} {x : Str} {px p1 p2 : Pos} {g0 : Ev → Res (D × Ev)} (he : PV M W X e g0) (hN : X.N[i]? = some x := by rfl) (hv : Vis X.env.scope x := by first | exact Or.inl rfl | exact Or.inr (Or.inl rfl) | exact Or.inr (Or.inr rfl)) (hd : (x == ("__debug__" : Str)) = false := by decide) (hcd : (x == ("__classdict__" : Str)) = false := by decide)
    (hs : swapsWith (.Call (.Attribute (.Name x px) "append" p1) [e] [] p2) none pos.line X.env = pure false := by rfl)
    (hline : (p1.endLine == p2.line) = true := by rfl)
    (h : ∀ {to : TE} {t : TA}, PE X (.Name x px) to → PA X [e] t → PE X (.Call (.Attribute (.Name x px) "append" p1) [e] [] p2) (tBM X.K "list" rAppend to t) := by exact fun ho ha => pe_bm PySem.F.plainAttrs_list PySem.F.slot_list_append PySem.F.type_list_append mt_append ho ha)
    (h1 : starEach [e] X.env = (false, eval e X.env) :: starEach [] X.env := by rfl) :
    PS' M W X (.Expr (.Call (.Attribute (.Name x px) "append" p1) [e] [] p2) pos) (sAppend i g0) := by
  obtain ⟨t, et, qt⟩ := he
  refine ⟨_, ps_expr (h (pe_var hN hv hd hcd) (L2.pa_cons et L2.pa_nil h1)) hs, fun σ G H ε s E hp => ?_⟩
  simp only [sAppend] at hp
  cases e0 : getOw ε i with
  | stuck => simp only [e0, Res.out] at hp; exact hp.elim
  | err c => exact absurd e0 getOw_err
  | ok ds0 =>
    simp only [e0, Res.out] at hp
    obtain ⟨a, vs0, ea, ga, ha, _⟩ := s.ow (getOw_ok e0)
    refine ⟨.ref a, ea, .inl ⟨rfl, vs0, .inl (.inl ha)⟩, ?_⟩
    refine qt σ G H ε s _ ?_
    cases e1 : g0 ε with
    | stuck => simp only [e1, Res.out] at hp; exact hp
    | err c => simp only [e1, Res.out] at hp; exact hp
    | ok p =>
      simp only [e1, Res.out] at hp
      intro v G1 H1 s1 st1 rv
      cases e2 : getOw p.2 i with
      | stuck => simp only [e2, Res.out] at hp; exact hp.elim
      | err c => exact absurd e2 getOw_err
      | ok ds =>
        simp only [e2, Res.out] at hp
        split at hp
        · rename_i hz
          obtain ⟨a', vs, ea', ga', ha', l⟩ := s1.ow (getOw_ok e2)
          rw [ea] at ea'
          cases ea'
          obtain ⟨s2, st2⟩ := s1.updOw (getOw_ok e2) ea (l.append (RpL.cons rv RpL.nil))
          refine ⟨a, vs, v, rfl, rfl, ha', ?_, hp _ G1 _ s2 (st1.trans s1.sub st2)⟩
          rw [← l.length]
          have : (1000000 : Nat) < sizeLine := by rw [sizeLine_eq]; decide
          omega
        · exact hp.elim
theorem ps_setIx' {i : Nat} {x : Str} {b : Expr} {px p1 : Pos} (he : PV M W X e fe) (hb : PV M W X b fi) (hN : X.N[i]? = some x := by rfl) (hv : Vis X.env.scope x := by first | exact Or.inl rfl | exact Or.inr (Or.inl rfl) | exact Or.inr (Or.inr rfl)) (hd : (x == ("__debug__" : Str)) = false := by decide) (hcd : (x == ("__classdict__" : Str)) = false := by decide)
    (hs : swapsWithSole [.Subscript (.Name x px) b p1] e pos.line X.env = pure false := by rfl) (hw : swappedStores [.Subscript (.Name x px) b p1] e X.env = pure none := by rfl)
    (h1 : (assignEach [.Subscript (.Name x px) b p1] X.env).map (·.2) = [assign (.Subscript (.Name x px) b p1) X.env] := by rfl)
    (ha : ∀ v, assign (.Subscript (.Name x px) b p1) X.env v = (do
      let ov ← holding [v] (eval (.Name x px) X.env)
      let iv ← holding [v, ov] (eval b X.env)
      standAt p1
      holding [v, ov, iv] (setItem ov iv v)
      release [v, ov, iv] []) := by intro _; rfl) :
    PS' M W X (.Assign [.Subscript (.Name x px) b p1] e pos) (sSetIx i fe fi) := by
  obtain ⟨t, et, qt⟩ := he
  obtain ⟨u, eu, qu⟩ := hb
  refine ⟨_, ps_asg et (pg_sub (pe_var hN hv hd hcd) eu set_list ha) hs hw h1, fun σ G H ε s E hp => ?_⟩
  simp only [sSetIx] at hp
  refine qt σ G H ε s _ ?_
  cases e1 : fe ε with
  | stuck => simp only [e1, Res.out] at hp; exact hp
  | err c => simp only [e1, Res.out] at hp; exact hp
  | ok p =>
    simp only [e1, Res.out] at hp
    intro v G1 H1 s1 st1 rv
    cases e0 : getOw p.2 i with
    | stuck => simp only [e0, Res.out] at hp; exact hp.elim
    | err c => exact absurd e0 getOw_err
    | ok ds0 =>
      simp only [e0, Res.out] at hp
      obtain ⟨a, vs0, ea, ga, ha0, _⟩ := s1.ow (getOw_ok e0)
      refine ⟨.ref a, ea, ?_⟩
      refine qu σ G1 H1 p.2 s1 _ ?_
      have hp1 := hp.shift s1 st1
      cases e2 : fi p.2 with
      | stuck => simp only [e2, Res.out] at hp1; exact hp1
      | err c => simp only [e2, Res.out] at hp1; exact hp1
      | ok q =>
        simp only [e2, Res.out] at hp1
        intro w G2 H2 s2 st2 rw'
        cases e3 : getOw q.2 i with
        | stuck => simp only [e3, Res.out] at hp1; exact hp1.elim
        | err c => exact absurd e3 getOw_err
        | ok ds =>
          simp only [e3, Res.out] at hp1
          split at hp1
          · rename_i kk ek
            rw [ek, rp_int] at rw'
            subst rw'
            split at hp1
            · rename_i j ej
              obtain ⟨a', vs, ea', ga', ha', l⟩ := s2.ow (getOw_ok e3)
              rw [ea] at ea'
              cases ea'
              obtain ⟨s3, st3⟩ := s2.updOw (getOw_ok e3) ea (l.set (rv.mono st2.gg) j)
              exact ⟨a, vs, kk, j, rfl, rfl, ha', by rw [← l.length]; exact ej, hp1 _ G2 _ s3 (st2.trans s2.sub st3)⟩
            · exact hp1.elim
          · exact hp1.elim
theorem ps_pop' {i : Nat} {x : Str} {px p1 p2 : Pos} (hN : X.N[i]? = some x := by rfl) (hv : Vis X.env.scope x := by first | exact Or.inl rfl | exact Or.inr (Or.inl rfl) | exact Or.inr (Or.inr rfl)) (hd : (x == ("__debug__" : Str)) = false := by decide) (hcd : (x == ("__classdict__" : Str)) = false := by decide)
    (hs : swapsWith (.Call (.Attribute (.Name x px) "pop" p1) [] [] p2) none pos.line X.env = pure false := by rfl)
    (h : ∀ {to : TE}, PE X (.Name x px) to → PE X (.Call (.Attribute (.Name x px) "pop" p1) [] [] p2) (tBM0 X.K "list" rPop to) := by exact fun ho => pe_bm0 PySem.F.plainAttrs_list PySem.F.slot_list_pop PySem.F.type_list_pop mt_pop ho) :
    PS' M W X (.Expr (.Call (.Attribute (.Name x px) "pop" p1) [] [] p2) pos) (sPop i) := by
  refine ⟨_, ps_expr (h (pe_var hN hv hd hcd)) hs, fun σ G H ε s E hp => ?_⟩
  simp only [sPop] at hp
  cases e0 : getOw ε i with
  | stuck => simp only [e0, Res.out] at hp; exact hp.elim
  | err c => exact absurd e0 getOw_err
  | ok ds =>
    simp only [e0, Res.out] at hp
    obtain ⟨a, vs, ea, ga, ha, l⟩ := s.ow (getOw_ok e0)
    split at hp
    · rename_i d ed
      obtain ⟨v, ev, rv⟩ := l.get ed
      obtain ⟨s2, st2⟩ := s.updOw (getOw_ok e0) ea l.dropLast
      exact ⟨.ref a, ea, .inl ⟨rfl, vs, .inl (.inl ha)⟩, a, vs, v, rfl, rfl, ha, by rw [← l.length]; exact ev, hp _ G _ s2 st2⟩
    · exact hp.elim

/-! ### for -/
def forF (tgt : D → Ev → Res Ev) (body : Ev → Out) : List D → Ev → Out
  | [], ε => .nx ε
  | x :: xs, ε => match (tgt x ε).ne with
    | .ok ε1 => match body ε1 with
      | .nx ε2 => forF tgt body xs ε2
      | .ct ε2 => forF tgt body xs ε2
      | .bk ε2 => .nx ε2
      | r => r
    | _ => .stuck
@[reducible] def sFor (src : Ev → Res (List D × Ev)) (tgt : D → Ev → Res Ev) (body : Ev → Out) : Ev → Out := fun ε => (src ε).out fun p => forF tgt body p.1 p.2
theorem ps_for' (c : CO M W k X) {tg iter : Expr} {body : List Stmt} {src : Ev → Res (List D × Ev)} {tgt : D → Ev → Res Ev} {is : List Nat} {fb : Ev → Out} (hi : PIt M W X tg iter src) (hg : PTg M X tg tgt is) (hb : PSs' M W X body fb) (hs : ∀ x, foldedSetIterable iter X.env x = pure x := by intro _; rfl) :
    PS' M W X (.For tg iter body [] pos) (sFor src tgt fb) := by
  obtain ⟨wi, ei, qi⟩ := hi
  obtain ⟨gt, eg, qg⟩ := hg
  obtain ⟨tb, eb, qb⟩ := hb
  refine ⟨_, ps_for c.po c.calm ei eg eb hs, fun σ0 G0 H0 ε0 s0 E hp => ?_⟩
  refine qi σ0 G0 H0 ε0 s0 _ ?_
  simp only [sFor] at hp
  cases e0 : src ε0 with
  | stuck => simp only [e0, Res.out] at hp; exact hp
  | err c => simp only [e0, Res.out] at hp; exact hp
  | ok p =>
    simp only [e0, Res.out] at hp
    intro J G1 H1 s1 st1 ij
    have hp1 := hp.shift s1 st1
    refine ⟨fun i m σ H => ∃ G ε, m = p.1.length - i ∧ i ≤ p.1.length ∧ SR M G H σ ε ∧ Step G1 H1 (Own σ0 p.2) G H (Own σ ε) ∧ forF tgt fb (p.1.drop i) ε = forF tgt fb p.1 p.2,
      ⟨p.1.length, G1, p.2, by simp, Nat.zero_le _, s1, Step.refl .., by rw [List.drop_zero]⟩, ?_⟩
    rintro i m σ H ⟨G, ε, hm, hi, s, st, eq⟩
    have it := ij i G H s.hg st.gg
    by_cases hlt : i < p.1.length
    case neg =>
      have e : i = p.1.length := by omega
      refine .inl ⟨it.2 (by omega), ?_⟩
      rw [e, List.drop_length] at eq
      rw [← eq] at hp1
      exact hp1 σ G H s st
    case pos =>
      obtain ⟨go, yld⟩ := it.1 p.1[i] (List.getElem?_eq_getElem hlt)
      have hd : p.1.drop i = p.1[i] :: p.1.drop (i + 1) := List.drop_eq_getElem_cons hlt
      rw [hd] at eq
      refine .inr ⟨go, fun σ' H' => ∃ G ε, i + 1 ≤ p.1.length ∧ SR M G H' σ' ε ∧ Step G1 H1 (Own σ0 p.2) G H' (Own σ' ε) ∧ forF tgt fb (p.1.drop (i + 1)) ε = forF tgt fb p.1 p.2, fun σ' H' ⟨G', ε', h1, h2, h3, h4⟩ => ⟨p.1.length - (i + 1), by omega, G', ε', rfl, h1, h2, h3, h4⟩, fun x H' y => ?_⟩
      obtain ⟨G3, gr, hg3, rx⟩ := yld x H' y
      have s3 : SR M G3 H' σ ε := s.grow gr hg3.sub hg3.ntb hg3.tabs
      have st3 := st.trans s.sub (gr.step (Own σ ε))
      simp only [forF] at eq
      cases e1 : tgt p.1[i] ε with
      | stuck => simp only [e1, Res.ne] at eq; rw [← eq] at hp1; exact hp1.elim
      | err c => simp only [e1, Res.ne] at eq; rw [← eq] at hp1; exact hp1.elim
      | ok ε1 =>
        simp only [e1, Res.ne] at eq
        refine qg p.1[i] x σ G3 H' ε ε1 s3 rx e1 _ fun σ4 s4 o4 _ _ => ?_
        have st4 : Step G1 H1 (Own σ0 p.2) G3 H' (Own σ4 ε1) := st3.trans s3.sub ⟨fun _ _ h => h, fun _ _ h _ _ => h, fun _ h => h, fun _ _ h => .inl h, fun q z => .inl (o4 q z)⟩
        refine qb σ4 G3 H' ε1 s4 _ ?_
        cases e2 : fb ε1 with
        | nx ε2 =>
          rw [e2] at eq
          exact fun σ' G' H'' s' st' => ⟨G', ε2, by omega, s', st4.trans s4.sub st', eq⟩
        | ct ε2 =>
          rw [e2] at eq
          exact fun σ' G' H'' s' st' => ⟨G', ε2, by omega, s', st4.trans s4.sub st', eq⟩
        | bk ε2 =>
          rw [e2] at eq
          rw [← eq] at hp1
          exact fun σ' G' H'' s' st' => hp1 σ' G' H'' s' (st4.trans s4.sub st')
        | rt d ε2 =>
          rw [e2] at eq
          rw [← eq] at hp1
          exact fun v σ' G' H'' s' st' r => hp1 v σ' G' H'' s' (st4.trans s4.sub st') r
        | err c =>
          rw [e2] at eq
          rw [← eq] at hp1
          exact ErrOk.shift s4.sub st4 hp1
        | stuck =>
          rw [e2] at eq
          rw [← eq] at hp1
          exact hp1.elim

/-! ### while -/
def whileF (c : Ev → Res (Bool × Ev)) (body : Ev → Out) : Nat → Ev → Out
  | 0, _ => .stuck
  | n + 1, ε => (c ε).out fun p => if p.1 then (match body p.2 with
      | .nx ε2 => whileF c body n ε2
      | .ct ε2 => whileF c body n ε2
      | .bk ε2 => .nx ε2
      | r => r) else .nx p.2
theorem ps_while' (co : CO M W k X) (n : Nat) {c : Expr} {body : List Stmt} {fc : Ev → Res (Bool × Ev)} {fb : Ev → Out} (hc : PB M W X c fc) (hb : PSs' M W X body fb) : PS' M W X (.While c body [] pos) (whileF fc fb n) := by
  obtain ⟨tc, ec, qc⟩ := hc
  obtain ⟨tb, eb, qb⟩ := hb
  refine ⟨_, ps_while co.po ec eb, fun σ0 G1 H1 ε0 s1 E hp1 => ?_⟩
  refine ⟨fun m σ H => ∃ G ε, SR M G H σ ε ∧ Step G1 H1 (Own σ0 ε0) G H (Own σ ε) ∧ whileF fc fb m ε = whileF fc fb n ε0, ⟨n, G1, ε0, s1, Step.refl .., rfl⟩, ?_⟩
  rintro m σ H ⟨G, ε, s, st, eq⟩
  cases m with
  | zero =>
    simp only [whileF] at eq
    rw [← eq] at hp1; exact hp1.elim
  | succ m =>
    simp only [whileF] at eq
    refine qc σ G H ε s _ ?_
    cases e1 : fc ε with
    | stuck => simp only [e1, Res.out] at eq; rw [← eq] at hp1; exact hp1.elim
    | err c => simp only [e1, Res.out] at eq; rw [← eq] at hp1; exact ErrOk.shift s.sub st hp1
    | ok p =>
      simp only [e1, Res.out] at eq
      intro b G2 H2 s2 st2 rb
      simp only [RB] at rb
      subst rb
      have st12 := st.trans s.sub st2
      cases hb : p.1 with
      | false =>
        rw [hb, if_neg Bool.false_ne_true] at eq
        rw [if_neg Bool.false_ne_true]
        rw [← eq] at hp1
        exact hp1 σ G2 H2 s2 st12
      | true =>
        rw [hb, if_pos rfl] at eq
        rw [if_pos rfl]
        refine ⟨fun σ' H' => ∃ G ε, SR M G H' σ' ε ∧ Step G1 H1 (Own σ0 ε0) G H' (Own σ' ε) ∧ whileF fc fb m ε = whileF fc fb n ε0, fun σ' H' h => ⟨m, Nat.lt_succ_self m, h⟩, ?_⟩
        refine qb σ G2 H2 p.2 s2 _ ?_
        cases e2 : fb p.2 with
        | nx ε2 =>
          rw [e2] at eq
          exact fun σ' G' H'' s' st' => ⟨G', ε2, s', st12.trans s2.sub st', eq⟩
        | ct ε2 =>
          rw [e2] at eq
          exact fun σ' G' H'' s' st' => ⟨G', ε2, s', st12.trans s2.sub st', eq⟩
        | bk ε2 =>
          rw [e2] at eq
          rw [← eq] at hp1
          exact fun σ' G' H'' s' st' => hp1 σ' G' H'' s' (st12.trans s2.sub st')
        | rt d ε2 =>
          rw [e2] at eq
          rw [← eq] at hp1
          exact fun v σ' G' H'' s' st' r => hp1 v σ' G' H'' s' (st12.trans s2.sub st') r
        | err c =>
          rw [e2] at eq
          rw [← eq] at hp1
          exact ErrOk.shift s2.sub st12 hp1
        | stuck =>
          rw [e2] at eq
          rw [← eq] at hp1
          exact hp1.elim

/-! ### raise X('..') -/
/-- what the top has of an own class of errors -/
structure ErrC (K : PySem.W.Frag) (mg : Str → Option Value) (x : Str) (C : Addr) : Prop where
  gC : mg x = some (.ref C)
  ex : PySem.W.excIn K C [.type "ValueError", .type "Exception", .type "BaseException", .type "object"] "ValueError.__new__" = true
  kC : PySem.W.keepIn K (.ref C) = true
  bC : PySem.W.subIn K (.ref C) (.type "BaseException") = some true
  tC : PySem.W.typeIn K (.ref C) = some (.type "type")
theorem ps_raise' (c : CO M W k X) {x m : Str} {ci : Nat} {j : Nat} {p p2 p3 : Pos} (h : ErrC X.K X.mg x (M.F.ca ci)) (hg : Gl X x := by rfl) (hdb : (x == ("__debug__" : Str)) = false := by decide) :
    PS' M W X (.Raise (some (.Call (.Name x p) [.Constant (.str m) j p2] [] p3)) none pos) (fun _ => .err ci) := by
  refine ⟨_, ps_raise c.calm c.tk (pmk_own PySem.F.excBase_ValueError h.ex h.gC h.kC (raises_own h.bC h.tC) hg hdb), fun σ G H ε s E hp => ?_⟩
  exact hp σ G H ε s (Step.refl ..)
end
end PL
/-! PL, part j: defs and their calls. -/
namespace PL
open PySem PySem.Spec PyProof.Rows L2

def CallPost (F : Fx) (G H : Hp) (r : Res D) (Q : VK) (E : XK) : Prop :=
  match r with
  | .ok d => ∀ v G' H', Grow G H G' H' → HG F G' H' → Rp F G' d v → Q v H'
  | .err c => ∀ G' H', Grow G H G' H' → HG F G' H' → E (.ref (F.ca c)) none H'
  | .stuck => False
/-- the promise of a def whose arguments are known values -/
def SpP (F : Fx) (n : Nat) (g : List D → Res D) : Sp := fun vs H Q E => ∃ (ds : List D) (G : Hp), ds.length = n ∧ HG F G H ∧ RpL F G ds vs ∧ CallPost F G H (g ds) Q E
/-- .. whose first argument is a list that it may change -/
def SpC (F : Fx) (n : Nat) (g : List D → List D → Res (D × List D)) : Sp := fun vs H Q E => ∃ (p : Addr) (ws : List V) (cs ds : List D) (rest : List V) (G : Hp), vs = .ref p :: rest ∧ ds.length = n ∧ HG F G H ∧ G p = none ∧ H p = some (.lst ws) ∧
  RpL F G cs ws ∧ RpL F G ds rest ∧ match g cs ds with
    | .ok r => ∀ v G' H' ws', Step G H (· = p) G' H' (· = p) → HG F G' H' → G' p = none → H' p = some (.lst ws') → RpL F G' r.2 ws' → Rp F G' r.1 v → Q v H'
    | _ => False

structure DOk (F : Fx) (P : Program) (w : World) (K : PySem.W.Frag) (mg : Str → Option Value) (base : Heap) (x : Str) (k n : Nat) (sp : Sp) : Prop where
  ex : ∃ (f : Addr) (fd : FuncData) (ps : List Str), FnOk P w K mg base (L2.CX P w) k f fd ps sp ∧ mg x = some (.ref f) ∧ PySem.W.keepIn K (.ref f) = true ∧ Binds K fd ps []
  pos : 0 < n

section
variable {M : Fr} {W : WX} {X : Cx} {k : Nat} {e : Expr} {es : List Expr} {pos : Pos}
/-- f(e, ..) of a def of the text -/
theorem pv_call (c : CO M W k X) {x : Str} {k' n : Nat} {g : List D → Res D} {p : Pos} {fs : Ev → Res (List D × Ev)} (d : DOk M.F X.prog X.w X.K X.mg X.base x k' n (SpP M.F n g)) (hk : k' ≤ k) (ha : PA' M W X (e :: es) fs) (hn : (e :: es).length = n := by rfl) (hg : Gl X x := by rfl) (hdb : (x == ("__debug__" : Str)) = false := by decide)
    (he : starEach (e :: es) X.env = (false, eval e X.env) :: starEach es X.env := by rfl) (hpl : (backTo pos (starEach es X.env)).any (·.1) = false := by rfl) :
    PV M W X (.Call (.Name x p) (e :: es) [] pos) (eCB g fs) := by
  obtain ⟨f, fd, ps, F, gm, kp, b⟩ := d.ex
  obtain ⟨⟨t, et, qt⟩, hl⟩ := ha
  refine ⟨_, pe_callS F (c.hr.mono hk) hg gm kp b (fun σ => passAt c.tk σ) et hdb he hpl, fun σ G H ε s Q hp => ?_⟩
  refine qt σ G H ε s _ ?_
  simp only [eCB] at hp
  cases e1 : fs ε with
  | stuck => rw [e1] at hp; exact hp
  | err c => rw [e1] at hp; exact hp
  | ok q =>
    rw [e1] at hp
    intro vs G1 H1 s1 st1 rs
    have hp1 : Post M W σ G1 H1 q.2 (Rp M.F) ((g q.1).bind fun d => .ok (d, q.2)) Q := Post.shift s1 st1 hp
    refine ⟨q.1, G1, by rw [hl _ _ e1]; exact hn, s1.hg, rs, ?_⟩
    cases e2 : g q.1 with
    | stuck => rw [e2] at hp1; exact hp1
    | err cc =>
      rw [e2] at hp1
      exact fun G' H' gr hg' => hp1 σ G' H' q.2 (s1.grow gr hg'.sub hg'.ntb hg'.tabs) (gr.step _)
    | ok d =>
      rw [e2] at hp1
      exact fun v G' H' gr hg' r => hp1 v G' H' (s1.grow gr hg'.sub hg'.ntb hg'.tabs) (gr.step _) r

/-- f(cup, e, ..), cup a list of one's own -/
@[reducible] def eCallC (i : Nat) (g : List D → List D → Res (D × List D)) (fs : Ev → Res (List D × Ev)) : Ev → Res (D × Ev) := fun ε =>
  (getOw ε i).bind fun _ => (fs ε).bind fun p => (getOw p.2 i).bind fun cs => (g cs p.1).ne.bind fun r => .ok (r.1, p.2.set i (.ow r.2))
theorem pv_callC (c : CO M W k X) (i : Nat) {x y : Str} {k' n : Nat} {g : List D → List D → Res (D × List D)} {p py : Pos} {fs : Ev → Res (List D × Ev)} (d : DOk M.F X.prog X.w X.K X.mg X.base x k' (n + 1) (SpC M.F n g)) (hk : k' ≤ k) (ha : PA' M W X es fs) (hn : es.length = n := by rfl)
    (hN : X.N[i]? = some y := by rfl) (hv : Vis X.env.scope y := by first | exact Or.inl rfl | exact Or.inr (Or.inl rfl) | exact Or.inr (Or.inr rfl)) (hd : (y == ("__debug__" : Str)) = false := by decide) (hcd : (y == ("__classdict__" : Str)) = false := by decide)
    (hg : Gl X x := by rfl) (hdb : (x == ("__debug__" : Str)) = false := by decide)
    (he : starEach (.Name y py :: es) X.env = (false, eval (.Name y py) X.env) :: starEach es X.env := by rfl) (hpl : (backTo pos (starEach es X.env)).any (·.1) = false := by rfl) :
    PV M W X (.Call (.Name x p) (.Name y py :: es) [] pos) (eCallC i g fs) := by
  obtain ⟨f, fd, ps, F, gm, kp, b⟩ := d.ex
  obtain ⟨⟨t, et, qt⟩, hl⟩ := ha
  refine ⟨_, pe_callS F (c.hr.mono hk) hg gm kp b (fun σ => passAt c.tk σ) (L2.pa_cons (pe_var (i := i) hN hv hd hcd) et he) hdb he hpl, fun σ G H ε s Q hp => ?_⟩
  simp only [eCallC] at hp
  cases e0 : getOw ε i with
  | stuck => rw [e0] at hp; exact hp.elim
  | err c => exact absurd e0 getOw_err
  | ok ds0 =>
    rw [e0] at hp
    simp only [Res.bind_ok] at hp
    obtain ⟨a, vs0, ea, ga, ha0, _⟩ := s.ow (getOw_ok e0)
    refine ⟨.ref a, ea, ?_⟩
    refine qt σ G H ε s _ ?_
    cases e1 : fs ε with
    | stuck => rw [e1] at hp; exact hp
    | err c => rw [e1] at hp; exact hp
    | ok q =>
      rw [e1] at hp
      simp only [Res.bind_ok] at hp
      intro vs G1 H1 s1 st1 rs
      cases e2 : getOw q.2 i with
      | stuck => rw [e2] at hp; exact hp.elim
      | err c => exact absurd e2 getOw_err
      | ok cs =>
        rw [e2] at hp
        simp only [Res.bind_ok] at hp
        obtain ⟨a', ws, ea', ga', ha', l⟩ := s1.ow (getOw_ok e2)
        rw [ea] at ea'
        cases ea'
        have hp1 : Post M W σ G1 H1 q.2 (Rp M.F) ((g cs q.1).ne.bind fun r => .ok (r.1, q.2.set i (.ow r.2))) Q := Post.shift s1 st1 hp
        refine ⟨a, ws, cs, q.1, vs, G1, rfl, by rw [hl _ _ e1]; exact hn, s1.hg, ga', ha', l, rs, ?_⟩
        cases e3 : g cs q.1 with
        | stuck => rw [e3] at hp1; exact hp1
        | err cc => rw [e3] at hp1; exact hp1
        | ok r =>
          rw [e3] at hp1
          intro v G' H' ws' st' hg' ga2 ha2 l2 rv
          have hq := getOw_ok e2
          have hi : i < q.2.length := (List.getElem?_eq_some_iff.mp hq).1
          have old : ∀ j, j ≠ i → (q.2.set i (Slot.ow r.2))[j]? = q.2[j]? := fun j hj => List.getElem?_set_ne (Ne.symm hj)
          have ownB : ∀ (j : Nat) (ds' : List D), (q.2.set i (Slot.ow r.2))[j]? = some (Slot.ow ds') → ∃ ds'' : List D, q.2[j]? = some (Slot.ow ds'') := fun j ds' e' => by
            by_cases hj : j = i
            · subst hj; exact ⟨cs, hq⟩
            · rw [old j hj] at e'; exact ⟨ds', e'⟩
          have own : ∀ z, Own σ (q.2.set i (.ow r.2)) z → Own σ q.2 z := fun z ⟨j, ds', f1, f2⟩ => by
            obtain ⟨ds'', f3⟩ := ownB j ds' f1
            exact ⟨j, ds'', f3, f2⟩
          have owa : Own σ q.2 a := ⟨i, cs, hq, ea⟩
          have sr : SR M G' H' σ (q.2.set i (.ow r.2)) := by
            refine ⟨hg'.sub, hg'.ntb, hg'.tabs, by rw [List.length_set]; exact s1.len, fun j xx o f1 f2 => ?_, fun j l d1 d2 z f1 f2 f3 f4 => ?_, fun z hz => ?_⟩
            · by_cases hj : j = i
              · subst hj
                rw [List.getElem?_set_self hi] at f1
                rw [ea] at f2
                cases f1
                cases f2
                exact ⟨a, ws', rfl, ga2, ha2, l2⟩
              · rw [old j hj] at f1
                have h := s1.slots j xx o f1 f2
                cases xx with
                | em => trivial
                | pu d =>
                  obtain ⟨v, ev, rr⟩ := h
                  exact ⟨v, ev, rr.mono st'.gg⟩
                | ow d' =>
                  obtain ⟨z, us, ez, nz, hz, rr⟩ := h
                  have hne : z ≠ a := fun y => hj (s1.inj j i d' cs a f1 hq (by rw [f2, ez, y]) ea)
                  refine ⟨z, us, ez, ?_, st'.hh _ _ hz (fun ps y => by cases y) hne, rr.mono st'.gg⟩
                  cases qz : G' z with
                  | none => rfl
                  | some u =>
                    rcases st'.gn z u qz with y | y | y
                    · rw [nz] at y; cases y
                    · rw [hz] at y; cases y
                    · exact (hne y).elim
            · obtain ⟨d1', h1⟩ := ownB j d1 f1
              obtain ⟨d2', h2⟩ := ownB l d2 f2
              exact s1.inj j l d1' d2' z h1 h2 f3 f4
            · obtain ⟨aa, d', bb⟩ := s1.cup z hz
              refine ⟨aa, ?_⟩
              by_cases h0 : 0 = i
              · rw [← h0, List.getElem?_set_self (by omega)]; exact ⟨r.2, rfl⟩
              · rw [old 0 h0]; exact ⟨d', bb⟩
          refine hp1 v G' H' sr ⟨st'.gg, fun z o h nt nn => st'.hh z o h nt fun y => nn (by rw [y]; exact owa), st'.hs, fun z o h => ?_, fun z h => .inl (own z h)⟩ rv
          rcases st'.gn z o h with y | y | y
          · exact .inl y
          · exact .inr (.inl y)
          · exact .inr (.inr (by rw [y]; exact owa))
end

/-! ### a def by its body -/
@[simp] def startE (n : Nat) (ds : List D) : Ev := ds.map .pu ++ List.replicate (n - ds.length) .em
@[reducible, simp] def outRes (r : Out) : Res D := match r with
  | .nx _ => .ok .non
  | .rt d _ => .ok d
  | .err c => .err c
  | _ => .stuck
theorem start_get (N : List Str) (vs : List V) (i : Nat) : (L2.start N vs)[i]? = if i < vs.length then (vs[i]?).map some else if i < N.length then some none else none := by
  unfold L2.start
  by_cases h : i < vs.length
  · rw [if_pos h, List.getElem?_append_left (by rw [List.length_map]; exact h), List.getElem?_map]
  · rw [if_neg h, List.getElem?_append_right (by rw [List.length_map]; omega), List.length_map]
    by_cases h2 : i < N.length
    · rw [if_pos h2, List.getElem?_replicate, if_pos (by omega)]
    · rw [if_neg h2, List.getElem?_replicate, if_neg (by omega)]
theorem startE_get (n : Nat) (ds : List D) (i : Nat) : (startE n ds)[i]? = if i < ds.length then (ds[i]?).map .pu else if i < n then some .em else none := by
  unfold startE
  by_cases h : i < ds.length
  · rw [if_pos h, List.getElem?_append_left (by rw [List.length_map]; exact h), List.getElem?_map]
  · rw [if_neg h, List.getElem?_append_right (by rw [List.length_map]; omega), List.length_map]
    by_cases h2 : i < n
    · rw [if_pos h2, List.getElem?_replicate, if_pos (by omega)]
    · rw [if_neg h2, List.getElem?_replicate, if_neg (by omega)]
theorem sr_start {F : Fx} {G H : Hp} {N : List Str} {ds : List D} {vs : List V} (hg : HG F G H) (l : RpL F G ds vs) (hn : ds.length ≤ N.length) : SR ⟨F, none⟩ G H (L2.start N vs) (startE N.length ds) := by
  have noow : ∀ (i : Nat) (es : List D), (startE N.length ds)[i]? ≠ some (.ow es) := fun i es e => by
    rw [startE_get] at e
    split at e
    · cases q : ds[i]? with
      | none => rw [q] at e; cases e
      | some d => rw [q] at e; cases e
    · split at e <;> cases e
  refine ⟨hg.sub, hg.ntb, hg.tabs, ?_, fun i x o e1 e2 => ?_, fun i j d1 d2 q e1 _ _ _ => absurd e1 (noow i d1), fun p h => by cases h⟩
  · unfold startE L2.start
    simp only [List.length_append, List.length_map, List.length_replicate]
    rw [l.length]
  · rw [startE_get] at e1
    rw [start_get, ← l.length] at e2
    by_cases h : i < ds.length
    · rw [if_pos h] at e1 e2
      rw [List.getElem?_eq_getElem h] at e1
      cases e1
      obtain ⟨v, ev, r⟩ := l.get (List.getElem?_eq_getElem h)
      rw [ev] at e2
      cases e2
      exact ⟨v, rfl, r⟩
    · rw [if_neg h] at e1
      split at e1
      · cases e1; trivial
      · cases e1
theorem own_start {F : Fx} {N : List Str} {ds : List D} {vs : List V} {q : Addr} : ¬ Own (L2.start N vs) (startE N.length ds) q := fun ⟨i, es, e, _⟩ => by
  rw [startE_get] at e
  split at e
  · cases q : ds[i]? with
    | none => rw [q] at e; cases e
    | some d => rw [q] at e; cases e
  · split at e <;> cases e

abbrev WE0 (E : XK) : WX := fun cls d _ H => E cls d H
section
variable {P : Program} {w : World} {K : PySem.W.Frag} {mg : Str → Option Value} {base : Heap}
theorem co_fn {F : Fx} (hF : F.K = K) {cp : Option Addr} {N ps : List Str} {qual : Str} {sc : Scope} (S : FnScope N ps sc) {f : Addr} {cdv : Value} {A : Around} {outer : List Env} {s : Shared} {H : Hp} {E : XK} {k : Nat} (hr : Room k (A.deeper (envOfC qual sc s.heap.objs.size f cdv))) :
    CO ⟨F, cp⟩ (WE0 E) k (cxOf (L2.CX P w) P w K mg base N qual sc f cdv A outer s H E) :=
  ⟨hF.symm, rfl, takes_of rfl rfl rfl rfl, S.nd, hr, passes_of rfl⟩
/-- a def whose arguments are known values -/
theorem fn_pure {F : Fx} (hF : F.K = K) {x qual : Str} {st : Stmt} {f : Addr} {fd : FuncData} {N ps : List Str} {k n : Nat} {g : List D → Res D} {body : Ev → Out} (Fu : Fun K x qual st f fd) (S : FnScope N ps (defScope st)) (hn : ps.length = n) (hN : n ≤ N.length)
    (hb : ∀ (cdv : Value) (A : Around) (outer : List Env) (s : Shared) (H : Hp) (E : XK), CO ⟨F, none⟩ (WE0 E) k (cxOf (L2.CX P w) P w K mg base N qual (defScope st) f cdv A outer s H E) → PSs' ⟨F, none⟩ (WE0 E) (cxOf (L2.CX P w) P w K mg base N qual (defScope st) f cdv A outer s H E) (defBody st) body)
    (hg : ∀ ds, ds.length = n → g ds = outRes (body (startE N.length ds))) : FnOk P w K mg base (L2.CX P w) (k + 1) f fd ps (SpP F n g) := by
  refine Fu.okX S (fun vs H Q E ⟨ds, G, h1, h2, h3, _⟩ => by rw [← h3.length, h1, hn]) fun cdv A outer s H vs Q E hr h => ?_
  obtain ⟨ds, G, h1, h2, h3, h4⟩ := h
  obtain ⟨t, et, qt⟩ := hb cdv A outer s H E (co_fn hF S hr)
  refine ⟨t, et, qt _ G H (startE N.length ds) (sr_start h2 h3 (by omega)) _ ?_⟩
  rw [hg ds h1] at h4
  have grow : ∀ {G' H' : Hp} {O' : Addr → Prop}, Step G H (Own (L2.start N vs) (startE N.length ds)) G' H' O' → Grow G H G' H' := fun {G' H' O'} st =>
    ⟨st.gg, fun q o h nt => st.hh q o h nt (own_start (F := F)), st.hs, fun q o h => (st.gn q o h).elim .inl fun z => z.elim .inr fun z => (own_start (F := F) z).elim⟩
  cases e : body (startE N.length ds) with
  | nx ε' => rw [e] at h4; exact fun σ' G' H' s' st' => h4 .non G' H' (grow st') s'.hg (rp_non.mpr rfl)
  | rt d ε' => rw [e] at h4; exact fun v σ' G' H' s' st' r => h4 v G' H' (grow st') s'.hg r
  | err c => rw [e] at h4; exact fun σ' G' H' ε' s' st' => h4 G' H' (grow st') s'.hg
  | bk ε' => rw [e] at h4; exact h4.elim
  | ct ε' => rw [e] at h4; exact h4.elim
  | stuck => rw [e] at h4; exact h4.elim

def startC (n : Nat) (cs ds : List D) : Ev := .ow cs :: (ds.map .pu ++ List.replicate (n - (ds.length + 1)) .em)
@[reducible] def outC (r : Out) : Res (D × List D) := match r with
  | .nx ε => (getOw ε 0).bind fun cs => .ok (.non, cs)
  | .rt d ε => (getOw ε 0).bind fun cs => .ok (d, cs)
  | _ => .stuck
theorem startC_succ (n : Nat) (cs ds : List D) (i : Nat) : (startC n cs ds)[i + 1]? = (startE (n - 1) ds)[i]? := by
  unfold startC startE
  rw [List.getElem?_cons_succ, show n - 1 - ds.length = n - (ds.length + 1) by omega]
theorem sr_startC {F : Fx} {G H : Hp} {N : List Str} {cs ds : List D} {p : Addr} {ws vs : List V} (hg : HG F G H) (gp : G p = none) (hp : H p = some (.lst ws)) (lc : RpL F G cs ws) (l : RpL F G ds vs) (hn : ds.length + 1 ≤ N.length) :
    SR ⟨F, some p⟩ G H (L2.start N (.ref p :: vs)) (startC N.length cs ds) := by
  have noow : ∀ (i : Nat) (es : List D), (startC N.length cs ds)[i + 1]? ≠ some (.ow es) := fun i es e => by
    rw [startC_succ, startE_get] at e
    split at e
    · cases q : ds[i]? with
      | none => rw [q] at e; cases e
      | some d => rw [q] at e; cases e
    · split at e <;> cases e
  refine ⟨hg.sub, hg.ntb, hg.tabs, ?_, fun i x o e1 e2 => ?_, fun i j d1 d2 q e1 e2 _ _ => ?_, fun q h => ?_⟩
  · unfold startC L2.start
    simp only [List.length_append, List.length_map, List.length_replicate, List.length_cons]
    rw [l.length]
    omega
  · cases i with
    | zero =>
      have a1 : (startC N.length cs ds)[0]? = some (.ow cs) := rfl
      have a2 : (L2.start N (.ref p :: vs))[0]? = some (some (.ref p)) := rfl
      rw [a1] at e1
      rw [a2] at e2
      cases e1
      cases e2
      exact ⟨p, ws, rfl, gp, hp, lc⟩
    | succ i =>
      rw [startC_succ, startE_get] at e1
      rw [start_get] at e2
      simp only [List.length_cons] at e2
      by_cases h : i < ds.length
      · rw [if_pos h, List.getElem?_eq_getElem h] at e1
        cases e1
        obtain ⟨v, ev, r⟩ := l.get (List.getElem?_eq_getElem h)
        rw [if_pos (by rw [← l.length]; omega), List.getElem?_cons_succ, ev] at e2
        cases e2
        exact ⟨v, rfl, r⟩
      · rw [if_neg h] at e1
        split at e1
        · cases e1; trivial
        · cases e1
  · cases i with
    | zero =>
      cases j with
      | zero => rfl
      | succ j => exact absurd e2 (noow j d2)
    | succ i => exact absurd e1 (noow i d1)
  · cases h
    exact ⟨rfl, cs, rfl⟩
theorem own_startC {N : List Str} {cs ds : List D} {p q : Addr} {vs : List V} (h : Own (L2.start N (.ref p :: vs)) (startC N.length cs ds) q) : q = p := by
  obtain ⟨i, es, e, e2⟩ := h
  cases i with
  | zero =>
    have a2 : (L2.start N (.ref p :: vs))[0]? = some (some (.ref p)) := rfl
    rw [a2] at e2
    cases e2; rfl
  | succ i =>
    rw [startC_succ, startE_get] at e
    split at e
    · cases q : ds[i]? with
      | none => rw [q] at e; cases e
      | some d => rw [q] at e; cases e
    · split at e <;> cases e
theorem fn_cup {F : Fx} (hF : F.K = K) {x qual : Str} {st : Stmt} {f : Addr} {fd : FuncData} {N ps : List Str} {k n : Nat} {g : List D → List D → Res (D × List D)} {body : Ev → Out} (Fu : Fun K x qual st f fd) (S : FnScope N ps (defScope st)) (hn : ps.length = n + 1) (hN : n + 1 ≤ N.length)
    (hb : ∀ (p : Addr) (cdv : Value) (A : Around) (outer : List Env) (s : Shared) (H : Hp) (E : XK), CO ⟨F, some p⟩ (WE0 E) k (cxOf (L2.CX P w) P w K mg base N qual (defScope st) f cdv A outer s H E) → PSs' ⟨F, some p⟩ (WE0 E) (cxOf (L2.CX P w) P w K mg base N qual (defScope st) f cdv A outer s H E) (defBody st) body)
    (hg : ∀ cs ds, ds.length = n → g cs ds = outC (body (startC N.length cs ds))) : FnOk P w K mg base (L2.CX P w) (k + 1) f fd ps (SpC F n g) := by
  refine Fu.okX S (fun vs H Q E ⟨p, ws, cs, ds, rest, G, h0, h1, h2, _, _, _, h3, _⟩ => by rw [h0, List.length_cons, ← h3.length, h1, hn]) fun cdv A outer s H vs Q E hr h => ?_
  obtain ⟨p, ws, cs, ds, rest, G, rfl, h1, h2, gp, hp, lc, l, h4⟩ := h
  obtain ⟨t, et, qt⟩ := hb p cdv A outer s H E (co_fn hF S hr)
  have s0 : SR ⟨F, some p⟩ G H (L2.start N (.ref p :: rest)) (startC N.length cs ds) := sr_startC h2 gp hp lc l (by omega)
  refine ⟨t, et, qt _ G H (startC N.length cs ds) s0 _ ?_⟩
  rw [hg cs ds h1] at h4
  have own0 : Own (L2.start N (.ref p :: rest)) (startC N.length cs ds) p := ⟨0, cs, rfl, rfl⟩
  have fin : ∀ {σ' : St} {ε' : Ev} {G' H' : Hp} {cs' : List D}, SR ⟨F, some p⟩ G' H' σ' ε' → Step G H (Own (L2.start N (.ref p :: rest)) (startC N.length cs ds)) G' H' (Own σ' ε') → getOw ε' 0 = .ok cs' →
      Step G H (· = p) G' H' (· = p) ∧ HG F G' H' ∧ G' p = none ∧ ∃ ws', H' p = some (.lst ws') ∧ RpL F G' cs' ws' := fun {σ' ε' G' H' cs'} s' st e => by
    obtain ⟨a, ws', ea, ga, ha, la⟩ := s'.ow (getOw_ok e)
    obtain ⟨b, _⟩ := s'.cup p rfl
    rw [b] at ea
    cases ea
    refine ⟨⟨st.gg, fun q o h nt nn => st.hh q o h nt fun z => nn (own_startC z), st.hs, fun q o h => ?_, fun q h => .inl h⟩, s'.hg, ga, ws', ha, la⟩
    rcases st.gn q o h with z | z | z
    · exact .inl z
    · exact .inr (.inl z)
    · exact .inr (.inr (own_startC z))
  cases e : body (startC N.length cs ds) with
  | nx ε' =>
    rw [e] at h4
    intro σ' G' H' s' st'
    cases e2 : getOw ε' 0 with
    | stuck => simp only [outC, e2, Res.bind] at h4
    | err c => exact absurd e2 getOw_err
    | ok cs' =>
      simp only [outC, e2, Res.bind] at h4
      obtain ⟨a, b, c, ws', d, l'⟩ := fin s' st' e2
      exact h4 .non G' H' ws' a b c d l' (rp_non.mpr rfl)
  | rt d ε' =>
    rw [e] at h4
    intro v σ' G' H' s' st' r
    cases e2 : getOw ε' 0 with
    | stuck => simp only [outC, e2, Res.bind] at h4
    | err c => exact absurd e2 getOw_err
    | ok cs' =>
      simp only [outC, e2, Res.bind] at h4
      obtain ⟨a, b, c, ws', dd, l'⟩ := fin s' st' e2
      exact h4 v G' H' ws' a b c dd l' r
  | err c => rw [e] at h4; exact h4.elim
  | bk ε' => rw [e] at h4; exact h4.elim
  | ct ε' => rw [e] at h4; exact h4.elim
  | stuck => rw [e] at h4; exact h4.elim
end
end PL
/-! PL, part k: chains of comparisons. -/
namespace PL
open PySem PySem.Spec PyProof.Rows L2

@[reducible, simp] def eCh2 (g1 g2 : D → D → Res D) (fa fb fc : Ev → Res (D × Ev)) : Ev → Res (D × Ev) := fun ε => (fa ε).bind fun p => (fb p.2).bind fun q => (g1 p.1 q.1).bind fun z => (asB z).bind fun t =>
  if t then (fc q.2).bind fun r => (g2 q.1 r.1).bind fun d => .ok (d, r.2) else .ok (.bl false, q.2)
@[reducible, simp] def eCh3 (g1 g2 g3 : D → D → Res D) (fa fb fc fd : Ev → Res (D × Ev)) : Ev → Res (D × Ev) := fun ε => (fa ε).bind fun p => (fb p.2).bind fun q => (g1 p.1 q.1).bind fun z => (asB z).bind fun t =>
  if t then (fc q.2).bind fun r => (g2 q.1 r.1).bind fun z2 => (asB z2).bind fun t2 => if t2 then (fd r.2).bind fun u => (g3 r.1 u.1).bind fun d => .ok (d, u.2) else .ok (.bl false, r.2) else .ok (.bl false, q.2)
def tChain3 (r r' r'' : R2) (ta tb tc td : TE) : TE := fun σ H Q => ta σ H fun x H1 => tb σ H1 fun y H2 => r x y H2 fun z H3 => ∃ k, z = .bl k ∧
  (if k = true then tc σ H3 fun w' H4 => r' y w' H4 fun z2 H5 => ∃ k2, z2 = .bl k2 ∧ (if k2 = true then td σ H5 fun u H6 => r'' w' u H6 Q else Q (.bl false) H5) else Q (.bl false) H3)
section
variable {M : Fr} {W : WX} {X : Cx} {k : Nat} {a b c e : Expr} {fa fb fc fe : Ev → Res (D × Ev)} {pos : Pos} {op op' op'' : CmpOp} {g1 g2 g3 : D → D → Res D}
theorem tr_ch2 {r r' : R2} {ta tb tc : TE} (o1 : OpT M W r g1) (o2 : OpT M W r' g2) (ha : Tr M W (Rp M.F) ta fa) (hb : Tr M W (Rp M.F) tb fb) (hc : Tr M W (Rp M.F) tc fc) : Tr M W (Rp M.F) (tChain r r' ta tb tc) (eCh2 g1 g2 fa fb fc) := by
  refine Tr.bind (f2 := fun x ε => (fb ε).bind fun q => (g1 x q.1).bind fun z => (asB z).bind fun t => if t then (fc q.2).bind fun r => (g2 q.1 r.1).bind fun d => .ok (d, r.2) else .ok (.bl false, q.2))
    (t2 := fun v σ H1 Q => tb σ H1 fun y H2 => r v y H2 fun z H3 => ∃ k, z = .bl k ∧ (if k = true then tc σ H3 fun w' H4 => r' y w' H4 Q else Q (.bl false) H3)) ha ?_
  intro x v σ G H ε s rx Q hp
  refine hb σ G H ε s _ ?_
  cases e1 : fb ε with
  | stuck => rw [e1] at hp; exact hp
  | err c => rw [e1] at hp; exact hp
  | ok q =>
    rw [e1] at hp
    intro w G1 H1 s1 st1 ry
    have hp1 : Post M W σ G1 H1 q.2 (Rp M.F) ((g1 x q.1).bind fun z => (asB z).bind fun t => if t then (fc q.2).bind fun r => (g2 q.1 r.1).bind fun d => .ok (d, r.2) else .ok (.bl false, q.2)) Q := Post.shift s1 st1 hp
    refine o1 x q.1 v w σ G1 H1 q.2 s1 (rx.mono st1.gg) ry _ ?_
    cases e2 : g1 x q.1 with
    | stuck => rw [e2] at hp1; exact hp1
    | err c => rw [e2] at hp1; exact hp1
    | ok z =>
      rw [e2] at hp1
      intro zv G2 H2 s2 st2 rz
      have hp2 : Post M W σ G2 H2 q.2 (Rp M.F) ((asB z).bind fun t => if t then (fc q.2).bind fun r => (g2 q.1 r.1).bind fun d => .ok (d, r.2) else .ok (.bl false, q.2)) Q := Post.shift s2 st2 hp1
      cases z with
      | bl t =>
        rw [rp_bl] at rz
        refine ⟨t, rz, ?_⟩
        cases t with
        | false => exact hp2 _ G2 H2 s2 (Step.refl ..) (rp_bl.mpr rfl)
        | true =>
          have hp3 : Post M W σ G2 H2 q.2 (Rp M.F) ((fc q.2).bind fun r => (g2 q.1 r.1).bind fun d => .ok (d, r.2)) Q := hp2
          refine hc σ G2 H2 q.2 s2 _ ?_
          cases e3 : fc q.2 with
          | stuck => rw [e3] at hp3; exact hp3
          | err c => rw [e3] at hp3; exact hp3
          | ok r =>
            rw [e3] at hp3
            intro u G3 H3 s3 st3 ru
            exact o2 q.1 r.1 w u σ G3 H3 r.2 s3 ((ry.mono st2.gg).mono st3.gg) ru Q (Post.shift s3 st3 hp3)
      | _ => exact hp2.elim
theorem pv_ch2 (h1 : CmpR M W X op g1) (h2 : CmpR M W X op' g2) (ha : PV M W X a fa) (hb : PV M W X b fb) (hc : PV M W X c fc) (hm : lastMarks [op, op'] [b, c] = false := by with_unfolding_all rfl) : PV M W X (.Compare a [op, op'] [b, c] pos) (eCh2 g1 g2 fa fb fc) := by
  obtain ⟨r, p1, q1⟩ := h1.ex
  obtain ⟨r', p2, q2⟩ := h2.ex
  obtain ⟨ta, ea, qa⟩ := ha
  obtain ⟨tb, eb, qb⟩ := hb
  obtain ⟨tc, ec, qc⟩ := hc
  exact ⟨_, pe_chain p1 p2 ea eb ec hm, tr_ch2 q1 q2 qa qb qc⟩
theorem pb_ch2 (h1 : CmpR M W X op g1) (h2 : CmpR M W X op' g2) (ha : PV M W X a fa) (hb : PV M W X b fb) (hc : PV M W X c fc) (hm : lastMarks [op, op'] [b, c] = false := by with_unfolding_all rfl) : PB M W X (.Compare a [op, op'] [b, c] pos) (bOf (eCh2 g1 g2 fa fb fc)) := by
  obtain ⟨r, p1, q1⟩ := h1.ex
  obtain ⟨r', p2, q2⟩ := h2.ex
  obtain ⟨ta, ea, qa⟩ := ha
  obtain ⟨tb, eb, qb⟩ := hb
  obtain ⟨tc, ec, qc⟩ := hc
  exact ⟨_, pt_chain p1 p2 ea eb ec hm, tr_test (tr_ch2 q1 q2 qa qb qc)⟩
theorem pe_chain3 {r r' r'' : R2} {ta tb tc td : TE} (ho : OpR X (compareOp op) r) (ho' : OpR X (compareOp op') r') (ho'' : OpR X (compareOp op'') r'') (ha : PE X a ta) (hb : PE X b tb) (hc : PE X c tc) (hd : PE X e td)
    (hm : lastMarks [op, op', op''] [b, c, e] = false := by with_unfolding_all rfl) : PE X (.Compare a [op, op', op''] [b, c, e] pos) (tChain3 r r' r'' ta tb tc td) := by
  refine ⟨fun pins s σ H Q I h => ?_⟩
  refine Compare_chain (thn (ha.run pins s σ H _ I h) fun v s1 ⟨x, H1, I1, r1, q1⟩ => chain_link (thn (hb.run pins s1 σ H1 _ I1 q1) fun u s2 ⟨y, H2, I2, r2, q2⟩ => thn (ho pins s2 σ H2 x y v u _ I2 r1 r2 q2) fun d s3 ⟨z, H3, I3, r3, k, e, q3⟩ => ?_)) hm
  subst e
  cases r3
  refine wpAny_truthy_bool ?_
  cases k with
  | false => exact ite_ff ⟨.bl false, H3, I3, rfl, q3⟩
  | true =>
    refine ite_tt (chain_link (thn (hc.run pins s3 σ H3 _ I3 q3) fun w' s4 ⟨z', H4, I4, r4, q4⟩ => thn (ho' pins s4 σ H4 y z' u w' _ I4 r2 r4 q4) fun d' s5 ⟨z2, H5, I5, r5, k2, e2, q5⟩ => ?_))
    subst e2
    cases r5
    refine wpAny_truthy_bool ?_
    cases k2 with
    | false => exact ite_ff ⟨.bl false, H5, I5, rfl, q5⟩
    | true => exact ite_tt (chain_last (thn (hd.run pins s5 σ H5 _ I5 q5) fun w2 s6 ⟨z3, H6, I6, r6, q6⟩ => ho'' pins s6 σ H6 z' z3 w' w2 Q I6 r4 r6 q6))
theorem tr_ch3 {r r' r'' : R2} {ta tb tc td : TE} (o1 : OpT M W r g1) (o2 : OpT M W r' g2) (o3 : OpT M W r'' g3) (ha : Tr M W (Rp M.F) ta fa) (hb : Tr M W (Rp M.F) tb fb) (hc : Tr M W (Rp M.F) tc fc) (hd : Tr M W (Rp M.F) td fe) :
    Tr M W (Rp M.F) (tChain3 r r' r'' ta tb tc td) (eCh3 g1 g2 g3 fa fb fc fe) := by
  refine Tr.bind (f2 := fun x ε => (fb ε).bind fun q => (g1 x q.1).bind fun z => (asB z).bind fun t => if t then (fc q.2).bind fun r => (g2 q.1 r.1).bind fun z2 => (asB z2).bind fun t2 => if t2 then (fe r.2).bind fun u => (g3 r.1 u.1).bind fun d => .ok (d, u.2) else .ok (.bl false, r.2) else .ok (.bl false, q.2))
    (t2 := fun v σ H1 Q => tb σ H1 fun y H2 => r v y H2 fun z H3 => ∃ k, z = .bl k ∧ (if k = true then tc σ H3 fun w' H4 => r' y w' H4 fun z2 H5 => ∃ k2, z2 = .bl k2 ∧ (if k2 = true then td σ H5 fun u H6 => r'' w' u H6 Q else Q (.bl false) H5) else Q (.bl false) H3)) ha ?_
  intro x v σ G H ε s rx Q hp
  refine hb σ G H ε s _ ?_
  cases e1 : fb ε with
  | stuck => rw [e1] at hp; exact hp
  | err c => rw [e1] at hp; exact hp
  | ok q =>
    rw [e1] at hp
    intro w G1 H1 s1 st1 ry
    have hp1 : Post M W σ G1 H1 q.2 (Rp M.F) ((g1 x q.1).bind fun z => (asB z).bind fun t => if t then (fc q.2).bind fun r => (g2 q.1 r.1).bind fun z2 => (asB z2).bind fun t2 => if t2 then (fe r.2).bind fun u => (g3 r.1 u.1).bind fun d => .ok (d, u.2) else .ok (.bl false, r.2) else .ok (.bl false, q.2)) Q := Post.shift s1 st1 hp
    refine o1 x q.1 v w σ G1 H1 q.2 s1 (rx.mono st1.gg) ry _ ?_
    cases e2 : g1 x q.1 with
    | stuck => rw [e2] at hp1; exact hp1
    | err c => rw [e2] at hp1; exact hp1
    | ok z =>
      rw [e2] at hp1
      intro zv G2 H2 s2 st2 rz
      have hp2 : Post M W σ G2 H2 q.2 (Rp M.F) ((asB z).bind fun t => if t then (fc q.2).bind fun r => (g2 q.1 r.1).bind fun z2 => (asB z2).bind fun t2 => if t2 then (fe r.2).bind fun u => (g3 r.1 u.1).bind fun d => .ok (d, u.2) else .ok (.bl false, r.2) else .ok (.bl false, q.2)) Q := Post.shift s2 st2 hp1
      cases z with
      | bl t =>
        rw [rp_bl] at rz
        refine ⟨t, rz, ?_⟩
        cases t with
        | false => exact hp2 _ G2 H2 s2 (Step.refl ..) (rp_bl.mpr rfl)
        | true =>
          have hp3 : Post M W σ G2 H2 q.2 (Rp M.F) ((fc q.2).bind fun r => (g2 q.1 r.1).bind fun z2 => (asB z2).bind fun t2 => if t2 then (fe r.2).bind fun u => (g3 r.1 u.1).bind fun d => .ok (d, u.2) else .ok (.bl false, r.2)) Q := hp2
          refine hc σ G2 H2 q.2 s2 _ ?_
          cases e3 : fc q.2 with
          | stuck => rw [e3] at hp3; exact hp3
          | err c => rw [e3] at hp3; exact hp3
          | ok r =>
            rw [e3] at hp3
            intro u G3 H3 s3 st3 ru
            have hp4 : Post M W σ G3 H3 r.2 (Rp M.F) ((g2 q.1 r.1).bind fun z2 => (asB z2).bind fun t2 => if t2 then (fe r.2).bind fun u => (g3 r.1 u.1).bind fun d => .ok (d, u.2) else .ok (.bl false, r.2)) Q := Post.shift s3 st3 hp3
            refine o2 q.1 r.1 w u σ G3 H3 r.2 s3 ((ry.mono st2.gg).mono st3.gg) ru _ ?_
            cases e4 : g2 q.1 r.1 with
            | stuck => rw [e4] at hp4; exact hp4
            | err c => rw [e4] at hp4; exact hp4
            | ok z2 =>
              rw [e4] at hp4
              intro zv2 G4 H4 s4 st4 rz2
              have hp5 : Post M W σ G4 H4 r.2 (Rp M.F) ((asB z2).bind fun t2 => if t2 then (fe r.2).bind fun u => (g3 r.1 u.1).bind fun d => .ok (d, u.2) else .ok (.bl false, r.2)) Q := Post.shift s4 st4 hp4
              cases z2 with
              | bl t2 =>
                rw [rp_bl] at rz2
                refine ⟨t2, rz2, ?_⟩
                cases t2 with
                | false => exact hp5 _ G4 H4 s4 (Step.refl ..) (rp_bl.mpr rfl)
                | true =>
                  have hp6 : Post M W σ G4 H4 r.2 (Rp M.F) ((fe r.2).bind fun u => (g3 r.1 u.1).bind fun d => .ok (d, u.2)) Q := hp5
                  refine hd σ G4 H4 r.2 s4 _ ?_
                  cases e5 : fe r.2 with
                  | stuck => rw [e5] at hp6; exact hp6
                  | err c => rw [e5] at hp6; exact hp6
                  | ok y =>
                    rw [e5] at hp6
                    intro yv G5 H5 s5 st5 ry5
                    exact o3 r.1 y.1 u yv σ G5 H5 y.2 s5 ((ru.mono st4.gg).mono st5.gg) ry5 Q (Post.shift s5 st5 hp6)
              | _ => exact hp5.elim
      | _ => exact hp2.elim
theorem pv_ch3 (h1 : CmpR M W X op g1) (h2 : CmpR M W X op' g2) (h3 : CmpR M W X op'' g3) (ha : PV M W X a fa) (hb : PV M W X b fb) (hc : PV M W X c fc) (hd : PV M W X e fe) (hm : lastMarks [op, op', op''] [b, c, e] = false := by with_unfolding_all rfl) :
    PV M W X (.Compare a [op, op', op''] [b, c, e] pos) (eCh3 g1 g2 g3 fa fb fc fe) := by
  obtain ⟨r, p1, q1⟩ := h1.ex
  obtain ⟨r', p2, q2⟩ := h2.ex
  obtain ⟨r'', p3, q3⟩ := h3.ex
  obtain ⟨ta, ea, qa⟩ := ha
  obtain ⟨tb, eb, qb⟩ := hb
  obtain ⟨tc, ec, qc⟩ := hc
  obtain ⟨td, ed, qd⟩ := hd
  exact ⟨_, pe_chain3 p1 p2 p3 ea eb ec ed hm, tr_ch3 q1 q2 q3 qa qb qc qd⟩
end
end PL
/-! PL, part l: enumerate over a tuple. -/
namespace PL
open PySem PySem.Spec PyProof.Rows L2
open Sem (wp)

theorem meets_enum1 {v : Value} {o : Obj} {H : Heap → Prop} (B : Begins v o H) :
    Meets (Builtin.«enumerate.__new__» ⟨[.type "enumerate", v], []⟩) (fun _ R s => H s.heap ∧
      R (.ok (.ret (.ref (s.heap.push o).objs.size))) { s with heap := (s.heap.push o).push { cls := .type "enumerate", data := .fields #[.none, .bool false, .ref s.heap.objs.size, rawInt 0, .none, .none] } }) :=
  .of_wp fun prog w A R s h => by
    obtain ⟨hp, g, d, tk, os⟩ := s; obtain ⟨h1, h⟩ := h
    have hsb := sub_enumerate
    have q1 : ∀ {A' : Around} {E Q : Value → Shared → Prop}, Q (.ref hp.objs.size) ⟨hp.push o, g, d, tk, os⟩ → wpAny (model prog w) A' (pyIter v) Q E ⟨hp, g, d, tk, os⟩ := fun q => B.iter prog w _ _ ⟨hp, g, d, tk, os⟩ _ h1 q
    wp_walk using q1
    refine wpAny_stack_any fun st => wpAny_pure ?_
    split
    · rename_i c _ _ _ _ _
      cases (c == Value.type "enumerate") <;> (wp_walk using q1; exact ⟨_, rfl, h⟩)
    · wp_walk using q1
      exact ⟨_, rfl, h⟩
theorem call_enum1 {prog : Program} {w : World} {A : Around} {E : Value → Shared → Prop} {s : Shared} {v : Value} {o : Obj} {H : Heap → Prop} {Q : Value → Shared → Prop} (B : Begins v o H) (h1 : H s.heap)
    (h : ∀ h', IsEnum h' (s.heap.objs.size + 1) s.heap.objs.size 0 .none → h'.get? s.heap.objs.size = some o → (∀ b o, s.heap.get? b = some o → h'.get? b = some o) → Q (.ref (s.heap.objs.size + 1)) { s with heap := h' }) :
    wpAny (model prog w) A (call (.type "enumerate") [v]) Q E s := by
  refine callType_new F.called_enumerate (by decide) (F.typeCall_enumerate_1 _) (F.newCall_enumerate_1 _) (fun obj => F.args_object_init_2 obj _) F.entry_enumerate_new (meets_enum1 B) ⟨h1, ?_⟩
  have hz : (s.heap.push o).objs.size = s.heap.objs.size + 1 := Heap.size_push ..
  show _ ∧ _
  rw [hz]
  have he : IsEnum ((s.heap.push o).push { cls := .type "enumerate", data := .fields #[.none, .bool false, .ref s.heap.objs.size, rawInt 0, .none, .none] }) (s.heap.objs.size + 1) s.heap.objs.size 0 .none := by
    have e1 := Heap.get?_push_size (s.heap.push o) (o := { cls := .type "enumerate", data := .fields #[.none, .bool false, .ref s.heap.objs.size, rawInt 0, .none, .none] }) rfl
    rw [hz] at e1; exact e1
  exact ⟨⟨_, he, rfl⟩, h _ he (Heap.get?_push_of_some _ (Heap.get?_push_size _ B.free)) fun b o x => Heap.get?_push_of_some _ (Heap.get?_push_of_some _ x)⟩

/-- the tuple at a, each item in a new pair, counted from c -/
def IteT (K : PySem.W.Frag) (c : Int) (a : Addr) : It :=
  ⟨fun i H => ∃ (xs : List V) (x : V), SqT K H a xs ∧ xs[i]? = some x, fun i H v H' => ∃ T x, v = .ref T ∧ H T = none ∧ H' = upd H T (.tup [.int (c + (i : Int)), x]) ∧ ∀ xs, SqT K H a xs → xs[i]? = some x, fun i H => ∃ xs : List V, SqT K H a xs ∧ xs.length ≤ i⟩
theorem turn_enumT {P : Program} {w : World} {K : PySem.W.Frag} {elts : List Expr} {kk : Nat} {tpos : Pos} (c : Int) (a e it : Addr) :
    Turn P w K (.Tuple elts kk tpos) (IteT K c a) [e, it] e (fun i h => (∃ old, IsEnum h e it (c + (i : Int)) old) ∧ h.IsTupleIter it a i ∧ e ≠ it) where
  mem := by simp
  obj := fun i h st b hb => by
    obtain ⟨⟨old, he⟩, ⟨o, ho, hc, hd⟩, _⟩ := st
    rcases (by simpa using hb : b = e ∨ b = it) with z | z
    · rw [z]; exact ⟨_, he, fun v q => nomatch q⟩
    · rw [z]; exact ⟨o, ho, fun v q => by rw [hd] at q; cases q⟩
  keep := fun i h h' st k => let ⟨⟨old, he⟩, hi, hne⟩ := st; ⟨⟨old, k e (by simp) _ he⟩, hi.at fun o q => k it (by simp) o q, hne⟩
  item := by
    intro X hP hw hK hc i pins s σ H E I hf st hg
    subst hP hw hK
    obtain ⟨⟨old, he⟩, hit, hne⟩ := st
    obtain ⟨xs, x, hq, hx⟩ := hg
    obtain ⟨its, rv, p, hz⟩ := I.tuple hq
    obtain ⟨u, hu, ru⟩ := rv.get hx
    have p0 : s.heap.IsTuple a its.toArray := p
    have hel : e < s.heap.objs.size := Heap.lt_size he
    have hil : it < s.heap.objs.size := by obtain ⟨_, q, _⟩ := hit; exact Heap.lt_size q
    have nea : e ≠ a := fun z => by
      obtain ⟨o, ho, hcl, _⟩ := p0
      rw [← z, he] at ho
      cases ho
      simp at hcl
    have nia : a ≠ it := fun z => by
      obtain ⟨o, ho, hcl, _⟩ := p0
      obtain ⟨o2, ho2, hcl2, _⟩ := hit
      rw [z, ho2] at ho
      cases ho
      rw [hcl2] at hcl
      simp at hcl
    have hi : i < its.toArray.size := by
      have e1 := (List.getElem?_eq_some_iff.mp hu).1
      simpa using e1
    refine wpAny_pyNext_enum_itemC (A := X.A) (Draws.tuple (show X.A.in1.handled = none from I.ok.hd hc) it a nia its.toArray) he ⟨hit, p0⟩ hi hne (by simp [hne, nea]) fun x0 h' tk hP ho hst hT hsz hk => ?_
    have ex : x0 = u := by
      have e1 : its[i]? = some x0 := by simpa using hP
      rw [hu] at e1
      exact (Option.some.inj e1).symm
    subst ex
    refine ⟨_, rfl, wpAny_letOwnedTupleGo_enum (s := { s with heap := h', toks := tk + 1 }) ho fun h'' he' sb => ?_⟩
    have hT2 : h''.get? s.heap.objs.size = some { cls := .type "tuple", data := .seq #[.int (c + (i : Int)) tk, x0] } := (sb.2 _ (Nat.ne_of_gt hel)).trans hT
    have new : ObjOk X.prog X.w (upd H s.heap.objs.size (.tup [.int (c + (i : Int)), x])) h'' s.heap.objs.size (.tup [.int (c + (i : Int)), x]) :=
      ⟨by show 2 ≤ sizeLine; decide, [.int (c + (i : Int)) tk, x0], .cons ⟨_, rfl⟩ (.cons ru .nil), ⟨_, hT2, rfl, _, rfl⟩⟩
    have I1 : Inv X pins σ (upd H s.heap.objs.size (.tup [.int (c + (i : Int)), x])) { s with heap := h'', toks := tk + 1 } :=
      I.turnedNew (ch := [e, it]) (fun b ob hb q => (sb.2 b (fun z => hb (by simp [z]))).trans (hk b ob (fun z => hb (by simp [z])) (fun z => hb (by simp [z])) q)) hf (Nat.le_refl _) new
    refine ⟨.ref s.heap.objs.size, _, I1, rfl, ⟨_, x, rfl, I.hok.fresh (Nat.le_refl _), rfl, fun ys hy => by rw [I.tuple_inj hy hq]; exact hx⟩, ⟨⟨x0, ?_⟩, hst.1.at fun o q => (sb.2 it (Ne.symm hne)).trans q, hne⟩, fun b hb => ?_⟩
    · have e1 : c + ((i + 1 : Nat) : Int) = c + (i : Int) + 1 := by omega
      rw [e1]; exact he'
    · have hb' : b < s.heap.objs.size := by
        rcases (by simpa using hb : b = e ∨ b = it) with z | z
        · rw [z]; exact hel
        · rw [z]; exact hil
      rw [upd_ne (Nat.ne_of_lt hb')]
      exact (hf b hb).1
  done := by
    intro X hP hw hK hc i pins s σ H E I hf st hg
    subst hP hw hK
    obtain ⟨⟨old, he⟩, hit, hne⟩ := st
    obtain ⟨xs, hq, hx⟩ := hg
    obtain ⟨its, rv, p, hz⟩ := I.tuple hq
    obtain ⟨f0, f1, f2, f3, f4, f5⟩ := hf it (by simp)
    have hl := rv.length
    have p0 : s.heap.IsTuple a its.toArray := p
    have hT : s.TypeIs (.ref e) "enumerate" := ⟨_, he, rfl⟩
    unfold pyNext
    refine wpAny_bind (wpAny_attempt (wpAny_callSpecial?_slot (name := Str.ofString "__next__") hT F.slot_enumerate_next (wpAny_call_entry F.slot_enumerate_next hT F.entry_enumerate_next ?_ (F.args_enumerate_next_1 _))))
    show wpAny _ _ (field (.ref e) 2 >>= _) _ _ _
    refine wpAny_bind (wpAny_field he rfl (x := .ref it) rfl ?_)
    refine wpAny_bind (wpAny_nextOf_tuple_end (show X.A.in1.handled = none from I.ok.hd hc) hit p0 (by simp; omega) fun h' x eb hx' => ?_)
    obtain ⟨o, ho, hcl⟩ := hx'
    refine wpAny_bind (wpAny_isInstance (T := "StopIteration") (b := true) ⟨o, ho, hcl⟩ isSubtype_stop ?_)
    exact wpAny_pure ⟨rfl, I.turned (t' := s.toks) (fun b o hb q => eb b o hb q) f0 f1 f3 f4 f5⟩
  self := fun A i s Q E st h => let ⟨⟨_, he⟩, _⟩ := st; wpAny_pyIter_enum he h
def iEnumT (K : PySem.W.Frag) (ta : TA) : TI := fun σ H R => ta σ H fun vs H1 => ∃ a xs, vs = [.ref a] ∧ SqT K H1 a xs ∧ R (IteT K 0 a) H1
theorem pi_enumT {X : Cx} {e : Expr} {ta : TA} {p pos tpos : Pos} {elts : List Expr} {kk : Nat} (hg : Gl X "enumerate") (hm : X.mg "enumerate" = none) (ha : PA X [e] ta) (hs : starEach [e] X.env = [(false, eval e X.env)] := by rfl) :
    PI X (.Tuple elts kk tpos) (.Call (.Name "enumerate" p) [e] [] pos) (iEnumT X.K ta) := by
  refine ⟨fun pins s σ H R I h => ?_⟩
  refine Call_ (ld_blt I hg hm boot_enumerate (PyProof.Rows.callWith_type1 (thn (ha.run pos pins s σ H _ I h) fun us s1 ⟨vs, H1, I1, r1, q1⟩ => ?_) hs rfl))
  obtain ⟨a, xs, ex, hq, q⟩ := q1
  subst ex
  cases r1 with
  | cons r rr =>
    cases rr
    cases r
    obtain ⟨its, rv, p', hz⟩ := I1.tuple hq
    refine call_enum1 (begins_tuple a its.toArray) p' fun h' he hit hk => wpAny_pyIter_enum he ?_
    have I2 : Inv X pins σ H1 { s1 with heap := h' } := I1.kept (t' := s1.toks) hk
    refine ⟨s1.heap.objs.size + 1, [s1.heap.objs.size + 1, s1.heap.objs.size], _, _, H1, rfl, I2, turn_enumT 0 a (s1.heap.objs.size + 1) s1.heap.objs.size, ⟨⟨.none, by simpa using he⟩, ⟨_, hit, rfl, rfl⟩, Nat.succ_ne_self _⟩, fun b hb => ?_, q⟩
    have hle : s1.heap.objs.size ≤ b := by
      rcases (by simpa using hb : b = s1.heap.objs.size + 1 ∨ b = s1.heap.objs.size) with z | z
      · rw [z]; exact Nat.le_add_right _ _
      · rw [z]; exact Nat.le_refl _
    exact I1.fpOk hle (I1.hok.fresh hle)

section
variable {M : Fr} {W : WX} {X : Cx} {k : Nat} {e : Expr} {pos : Pos}
@[simp] def fEnum : List D → Res (List D)
  | [.lst ds] => .ok (enumD 0 ds)
  | [.tup ds] => .ok (enumD 0 ds)
  | _ => .stuck
theorem pit_enum (c : CO M W k X) {p tpos : Pos} {elts : List Expr} {kk : Nat} {fs} (hm : X.mg "enumerate" = none) (ha : PA' M W X [e] fs) (hg : Gl X "enumerate" := by rfl) (hs : starEach [e] X.env = [(false, eval e X.env)] := by rfl) :
    PIt M W X (.Tuple elts kk tpos) (.Call (.Name "enumerate" p) [e] [] pos) (iCall fEnum fs) := by
  obtain ⟨⟨t, et, qt⟩, hl⟩ := ha
  refine ⟨_, pi_or (pi_enum hg hm et hs) (pi_enumT hg hm et hs), fun σ G H ε s Q hp => ?_⟩
  simp only [iCall] at hp
  cases e1 : fs ε with
  | stuck => rw [e1] at hp; exact hp.elim
  | err cc =>
    rw [e1] at hp
    refine .inl (qt σ G H ε s _ ?_)
    rw [e1]; exact hp
  | ok p =>
    rw [e1] at hp
    simp only [Res.bind_ok] at hp
    unfold fEnum at hp
    split at hp
    · rename_i ds ej
      refine .inl (qt σ G H ε s _ ?_)
      rw [e1]
      intro vs G1 H1 s1 st1 rs
      rw [ej] at rs
      obtain ⟨v, rfl, r⟩ := rpL1 rs
      obtain ⟨a, ws, rfl, ha, l⟩ := rp_lst.mp r
      refine ⟨a, ws, rfl, SqL.of (s1.sub _ _ ha), hp _ G1 H1 s1 st1 ?_⟩
      intro i G2 H2 s2 g2
      have hs : SqL X.K H2 a ws := SqL.of (s2.sub _ _ (g2 _ _ ha))
      refine ⟨fun d e => ?_, fun e => ⟨ws, hs, by rw [← l.length]; rw [enumD_len] at e; exact e⟩⟩
      obtain ⟨d0, e2, rfl⟩ := enumD_get ds 0 i d e
      obtain ⟨v, e3, r⟩ := l.get e2
      refine ⟨⟨ws, v, hs, e3⟩, fun x H' y => ?_⟩
      obtain ⟨T, x0, rfl, hT, rfl, y⟩ := y
      have ex := y ws hs
      rw [e3] at ex
      cases ex
      exact new_pair s2 hT (rp_int.mpr (by simp)) (r.mono g2)
    · rename_i ds ej
      refine .inr (qt σ G H ε s _ ?_)
      rw [e1]
      intro vs G1 H1 s1 st1 rs
      rw [ej] at rs
      obtain ⟨v, rfl, r⟩ := rpL1 rs
      obtain ⟨a, ws, rfl, ha, l⟩ := rp_tup.mp r
      rw [← c.hK] at ha
      refine ⟨a, ws, rfl, sqT_mono s1.sub ha, hp _ G1 H1 s1 st1 ?_⟩
      intro i G2 H2 s2 g2
      have hs : SqT X.K H2 a ws := sqT_mono s2.sub (sqT_mono g2 ha)
      refine ⟨fun d e => ?_, fun e => ⟨ws, hs, by rw [← l.length]; rw [enumD_len] at e; exact e⟩⟩
      obtain ⟨d0, e2, rfl⟩ := enumD_get ds 0 i d e
      obtain ⟨v, e3, r⟩ := l.get e2
      refine ⟨⟨ws, v, hs, e3⟩, fun x H' y => ?_⟩
      obtain ⟨T, x0, rfl, hT, rfl, y⟩ := y
      have ex := y ws hs
      rw [e3] at ex
      cases ex
      exact new_pair s2 hT (rp_int.mpr (by simp)) (r.mono g2)
    · exact hp.elim
end
end PL
/-! PL, part m: an owned list read as a value (it stays what it is from then on); a law's own def; what the top has. -/
namespace PL
open PySem PySem.Spec PyProof.Rows L2

@[reducible, simp] def eZ (i : Nat) : Ev → Res (D × Ev) := fun ε => match ε[i]? with
  | some (.pu d) => .ok (d, ε)
  | some (.ow ds) => .ok (.lst ds, ε.set i (.pu (.lst ds)))
  | _ => .stuck
theorem SR.frz {M : Fr} {G H : Hp} {σ : St} {ε : Ev} (s : SR M G H σ ε) {i : Nat} {ds : List D} {p : Addr} {vs : List V} (e : ε[i]? = some (.ow ds)) (eσ : σ[i]? = some (some (.ref p))) (gp : G p = none) (hp : H p = some (.lst vs)) (l : RpL M.F G ds vs) (hc : M.cp = none ∨ i ≠ 0) :
    SR M (upd G p (.lst vs)) H σ (ε.set i (.pu (.lst ds))) ∧ Step G H (Own σ ε) (upd G p (.lst vs)) H (Own σ (ε.set i (.pu (.lst ds)))) := by
  have hi : i < ε.length := (List.getElem?_eq_some_iff.mp e).1
  have mono : ∀ q o, G q = some o → upd G p (.lst vs) q = some o := fun q o h => by rw [upd_ne (ne_of_none h gp)]; exact h
  have old : ∀ j, j ≠ i → (ε.set i (Slot.pu (.lst ds)))[j]? = ε[j]? := fun j hj => List.getElem?_set_ne (Ne.symm hj)
  have ow : ∀ (j : Nat) (es : List D), (ε.set i (Slot.pu (.lst ds)))[j]? = some (.ow es) → j ≠ i ∧ ε[j]? = some (.ow es) := fun j es e1 => by
    by_cases hj : j = i
    · subst hj
      rw [List.getElem?_set_self hi] at e1
      cases e1
    · rw [old j hj] at e1
      exact ⟨hj, e1⟩
  refine ⟨⟨fun q o h => ?_, fun q ps h => ?_, s.tabs, by rw [List.length_set]; exact s.len, fun j x o e1 e2 => ?_, fun j l d1 d2 q e1 e2 e3 e4 => s.inj j l d1 d2 q (ow j d1 e1).2 (ow l d2 e2).2 e3 e4, fun q hq => ?_⟩, ⟨mono, fun q o h _ _ => h, fun q h => h, fun q o h => ?_, fun q ⟨j, es, e1, e2⟩ => .inl ⟨j, es, (ow j es e1).2, e2⟩⟩⟩
  · unfold upd at h
    split at h
    · rename_i z; subst z; rw [hp]; exact h
    · exact s.sub q o h
  · unfold upd at h
    split at h
    · cases h
    · exact s.ntb q ps h
  · by_cases hj : j = i
    · subst hj
      rw [List.getElem?_set_self hi] at e1
      rw [eσ] at e2
      cases e1
      cases e2
      exact ⟨.ref p, rfl, rp_lst.mpr ⟨p, vs, rfl, upd_same, l.mono mono⟩⟩
    · rw [old j hj] at e1
      have h := s.slots j x o e1 e2
      cases x with
      | em => trivial
      | pu d =>
        obtain ⟨v, ev, r⟩ := h
        exact ⟨v, ev, r.mono mono⟩
      | ow es =>
        obtain ⟨q, ws, eq, n, hq, r⟩ := h
        refine ⟨q, ws, eq, ?_, hq, r.mono mono⟩
        rw [upd_ne (fun z => hj (s.inj j i es ds p e1 e (by rw [e2, eq, z]) eσ))]
        exact n
  · obtain ⟨a, d, b⟩ := s.cup q hq
    have h0 : (0 : Nat) ≠ i := fun z => by
      rcases hc with y | y
      · rw [y] at hq; cases hq
      · exact y z.symm
    exact ⟨a, d, by rw [old 0 h0]; exact b⟩
  · unfold upd at h
    split at h
    · rename_i z; subst z; exact .inr (.inr ⟨i, ds, e, eσ⟩)
    · exact .inl h
section
variable {M : Fr} {W : WX} {X : Cx} {k : Nat} {pos : Pos}
theorem tr_frz (i : Nat) (hc : M.cp = none ∨ i ≠ 0) : Tr M W (Rp M.F) (tVar i) (eZ i) := by
  intro σ G H ε s Q hp
  simp only [eZ] at hp
  cases e : ε[i]? with
  | none => rw [e] at hp; exact hp.elim
  | some x =>
    rw [e] at hp
    cases x with
    | em => exact hp.elim
    | pu d =>
      obtain ⟨v, e2, r⟩ := s.pu e
      exact ⟨v, e2, hp v G H s (Step.refl ..) r⟩
    | ow ds =>
      obtain ⟨p, vs, ev, gp, hp', l⟩ := s.ow e
      obtain ⟨s2, st2⟩ := s.frz e ev gp hp' l hc
      have mono : ∀ q o, G q = some o → upd G p (.lst vs) q = some o := fun q o h => by rw [upd_ne (ne_of_none h gp)]; exact h
      exact ⟨.ref p, ev, hp (.ref p) _ H s2 st2 (rp_lst.mpr ⟨p, vs, rfl, upd_same, l.mono mono⟩)⟩
theorem pv_frz (i : Nat) {x : Str} (hc : M.cp = none ∨ i ≠ 0) (hN : X.N[i]? = some x := by rfl) (hv : Vis X.env.scope x := by first | exact Or.inl rfl | exact Or.inr (Or.inl rfl) | exact Or.inr (Or.inr rfl)) (hd : (x == ("__debug__" : Str)) = false := by decide)
    (hcd : (x == ("__classdict__" : Str)) = false := by decide) : PV M W X (.Name x pos) (eZ i) := ⟨_, pe_var hN hv hd hcd, tr_frz i hc⟩
/-- a constant of the module -/
def GlC (F : Fx) (mg : Str → Option Value) (x : Str) (d : D) : Prop := ∃ v u, mg x = some u ∧ RelV v u ∧ ∀ G, Rp F G d v
theorem pv_gl {x : Str} {d : D} (h : GlC M.F X.mg x d) (hg : Gl X x := by rfl) (hdb : (x == ("__debug__" : Str)) = false := by decide) : PV M W X (.Name x pos) (eC d) := by
  obtain ⟨v, u, hm, r, hd⟩ := h
  exact pv_glob hm r hd hg hdb
theorem glC_int {F : Fx} {mg : Str → Option Value} {x : Str} {i : Int} {t : Tok} (h : mg x = some (.int i t)) : GlC F mg x (.int i) := ⟨.int i, _, h, ⟨_, rfl⟩, fun _ => rp_int.mpr rfl⟩

/-- a def that the top has written, under this name -/
def FnC (K : PySem.W.Frag) (mg : Str → Option Value) (y x : Str) (st : Stmt) : Prop := ∃ f fd, Fun K x x st f fd ∧ mg y = some (.ref f)
end

theorem fnC_mk {K : PySem.W.Frag} {h : Heap} {mg : Str → Option Value} {y x : Str} {st : Stmt} {f : Addr} {oc : Value} {od an : Option Addr} {osl : Array (Option Value)} {kV doc pm cdv ct : Value} (X : K.In h) (G : h.Ns mainGlobals mg) (a : PySem.W.nsIn K mainGlobals y = some (some (.ref f)))
    (l : K.lookup f = some ⟨oc, od, .func (PySem.W.fnOf x x (defArgs st) (defBody st) (defScope st) .none kV doc pm an cdv ct), osl⟩) (c : PySem.W.codeIn K cdv x = true) (k : PySem.W.keepIn K (.ref f) = true) : FnC K mg y x st :=
  ⟨f, _, fun_mk l c k, PySem.W.mg_of X G a⟩
theorem errC_mk {K : PySem.W.Frag} {h : Heap} {mg : Str → Option Value} {x : Str} {C : Addr} (X : K.In h) (G : h.Ns mainGlobals mg) (a : PySem.W.nsIn K mainGlobals x = some (some (.ref C)))
    (ex : PySem.W.excIn K C [.type "ValueError", .type "Exception", .type "BaseException", .type "object"] "ValueError.__new__" = true) (kC : PySem.W.keepIn K (.ref C) = true) (bC : PySem.W.subIn K (.ref C) (.type "BaseException") = some true)
    (tC : PySem.W.typeIn K (.ref C) = some (.type "type")) : ∃ C, ErrC K mg x C := ⟨C, PySem.W.mg_of X G a, ex, kC, bC, tC⟩
theorem int_mk {F : Fx} {K : PySem.W.Frag} {h : Heap} {mg : Str → Option Value} {x : Str} {i : Int} {t : Tok} (X : K.In h) (G : h.Ns mainGlobals mg) (a : PySem.W.nsIn K mainGlobals x = some (some (.int i t))) : GlC F mg x (.int i) := glC_int (PySem.W.mg_of X G a)

/-! ### the law -/
def spL (K : PySem.W.Frag) : Sp := fun vs H Q _ => ∃ (a : Addr) (ns : List Int), vs = [.ref a] ∧ SqL K H a (ns.map V.int) ∧ ns.length ≤ 63 ∧ Only H ∧ ∀ H', Q (.bl true) H'
section
variable {P : Program} {w : World} {K : PySem.W.Frag} {mg : Str → Option Value} {base : Heap}
theorem fn_law {F : Fx} (hF : F.K = K) (hT : F.T = []) {x qual : Str} {st : Stmt} {f : Addr} {fd : FuncData} {N ps : List Str} {k : Nat} {body : Ev → Out} (Fu : Fun K x qual st f fd) (S : FnScope N ps (defScope st)) (hn : ps.length = 1) (hN : 1 ≤ N.length)
    (hb : ∀ (cdv : Value) (A : Around) (outer : List Env) (s : Shared) (H : Hp) (E : XK), CO ⟨F, none⟩ (WE0 E) k (cxOf (L2.CX P w) P w K mg base N qual (defScope st) f cdv A outer s H E) → PSs' ⟨F, none⟩ (WE0 E) (cxOf (L2.CX P w) P w K mg base N qual (defScope st) f cdv A outer s H E) (defBody st) body)
    (hg : ∀ ns : List Int, ns.length ≤ 63 → outRes (body (startE N.length [.scr ns])) = .ok (.bl true)) : FnOk P w K mg base (L2.CX P w) (k + 1) f fd ps (spL K) := by
  refine Fu.okX S (fun vs H Q E ⟨a, ns, h, _⟩ => by rw [h, hn]; rfl) fun cdv A outer s H vs Q E hr h => ?_
  obtain ⟨a, ns, rfl, hS, hl, hO, q⟩ := h
  obtain ⟨t, et, qt⟩ := hb cdv A outer s H E (co_fn hF S hr)
  have h1 : ∀ q ps, H q ≠ some (.tbl ps) := fun q ps h => by
    rcases hO q with z | ⟨o, xs, z⟩
    · rw [z] at h; cases h
    · rw [z] at h; cases h
  have h2 : HG F H H := ⟨fun _ _ h => h, h1, by rw [hT]; exact fun t ht => by cases ht⟩
  have h3 : RpL F H [.scr ns] [.ref a] := RpL.cons (by simp only [Rp]; exact ⟨a, rfl, by rw [hF]; exact hS⟩) RpL.nil
  refine ⟨t, et, qt _ H H (startE N.length [.scr ns]) (sr_start h2 h3 (by simpa using hN)) _ ?_⟩
  have h4 := hg ns hl
  cases e : body (startE N.length [.scr ns]) with
  | nx ε' => rw [e] at h4; cases h4
  | rt d ε' =>
    rw [e] at h4
    simp only [outRes, Res.ok.injEq] at h4
    subst h4
    intro v σ' G' H' s' st' r
    rw [rp_bl] at r
    subst r
    exact q H'
  | err c => rw [e] at h4; cases h4
  | bk ε' => rw [e] at h4; cases h4
  | ct ε' => rw [e] at h4; cases h4
  | stuck => rw [e] at h4; cases h4
end
end PL
/-! PL, part n: a def that gives a new list. -/
namespace PL
open PySem PySem.Spec PyProof.Rows L2
/-- the promise of a def that gives a new list -/
def SpN (F : Fx) (n : Nat) (g : List D → Res (List D)) : Sp := fun vs H Q E => ∃ (ds : List D) (G : Hp), ds.length = n ∧ HG F G H ∧ RpL F G ds vs ∧ match g ds with
  | .ok es => ∀ a ws G' H', Grow G H G' H' → HG F G' H' → G' a = none → H' a = some (.lst ws) → RpL F G' es ws → H a = none → Q (.ref a) H'
  | _ => False
@[reducible] def eCallN (g : List D → Res (List D)) (fs : Ev → Res (List D × Ev)) : Ev → Res (List D × Ev) := fun ε => (fs ε).bind fun p => (g p.1).ne.bind fun d => .ok (d, p.2)
section
variable {M : Fr} {W : WX} {X : Cx} {k : Nat} {e : Expr} {es : List Expr} {pos : Pos}
theorem pn_call (c : CO M W k X) {x : Str} {k' n : Nat} {g : List D → Res (List D)} {p : Pos} {fs : Ev → Res (List D × Ev)} (d : DOk M.F X.prog X.w X.K X.mg X.base x k' n (SpN M.F n g)) (hk : k' ≤ k) (ha : PA' M W X (e :: es) fs) (hn : (e :: es).length = n := by rfl) (hg : Gl X x := by rfl) (hdb : (x == ("__debug__" : Str)) = false := by decide)
    (he : starEach (e :: es) X.env = (false, eval e X.env) :: starEach es X.env := by rfl) (hpl : (backTo pos (starEach es X.env)).any (·.1) = false := by rfl) :
    PN M W X (.Call (.Name x p) (e :: es) [] pos) (eCallN g fs) := by
  obtain ⟨f, fd, ps, F, gm, kp, b⟩ := d.ex
  obtain ⟨⟨t, et, qt⟩, hl⟩ := ha
  refine ⟨_, pe_callS F (c.hr.mono hk) hg gm kp b (fun σ => passAt c.tk σ) et hdb he hpl, fun σ G H ε s Q hp => ?_⟩
  refine qt σ G H ε s _ ?_
  simp only [eCallN] at hp
  cases e1 : fs ε with
  | stuck => rw [e1] at hp; exact hp
  | err c => rw [e1] at hp; exact hp
  | ok q =>
    rw [e1] at hp
    intro vs G1 H1 s1 st1 rs
    have hp1 : PostN M W σ G1 H1 q.2 ((g q.1).ne.bind fun d => .ok (d, q.2)) Q := PostN.shift s1 st1 hp
    refine ⟨q.1, G1, by rw [hl _ _ e1]; exact hn, s1.hg, rs, ?_⟩
    cases e2 : g q.1 with
    | stuck => rw [e2] at hp1; exact hp1
    | err cc =>
      rw [e2] at hp1
      exact hp1
    | ok d =>
      rw [e2] at hp1
      intro a ws G' H' gr hg' ga ha' r hn'
      have s2 := s1.grow gr hg'.sub hg'.ntb hg'.tabs
      exact hp1 a ws G' H' s2 (gr.step _) ga ha' r hn' fun z => by
        obtain ⟨_, us, y⟩ := s1.own z
        rw [hn'] at y; cases y
end
theorem newRet {f1 : Ev → Out} {f2 : Ev → Res (List D × Ev)} {ε : Ev} {es : List D} (h : (match f1 ε with
  | .nx ε1 => (f2 ε1).bind fun p => .ok p.1
  | _ => .stuck : Res (List D)) = .ok es) : ∃ ε1 ε2, f1 ε = .nx ε1 ∧ f2 ε1 = .ok (es, ε2) := by
  cases e : f1 ε with
  | nx ε1 =>
    rw [e] at h
    replace h : (f2 ε1).bind (fun p => .ok p.1) = .ok es := h
    cases e2 : f2 ε1 with
    | ok p =>
      rw [e2] at h
      cases h
      exact ⟨ε1, p.2, rfl, e2⟩
    | err c => rw [e2] at h; cases h
    | stuck => rw [e2] at h; cases h
  | _ => rw [e] at h; cases h
section
variable {P : Program} {w : World} {K : PySem.W.Frag} {mg : Str → Option Value} {base : Heap}
/-- name = e; return [..] -/
theorem fn_new {F : Fx} (hF : F.K = K) {x qual : Str} {st : Stmt} {f : Addr} {fd : FuncData} {N ps : List Str} {k n : Nat} {g : List D → Res (List D)} {st1 : Stmt} {e : Expr} {pos : Pos} {f1 : Ev → Out} {f2 : Ev → Res (List D × Ev)} (Fu : Fun K x qual st f fd) (S : FnScope N ps (defScope st)) (hn : ps.length = n) (hN : n ≤ N.length)
    (hst : defBody st = [st1, .Return (some e) pos])
    (hb : ∀ (cdv : Value) (A : Around) (outer : List Env) (s : Shared) (H : Hp) (E : XK), CO ⟨F, none⟩ (WE0 E) k (cxOf (L2.CX P w) P w K mg base N qual (defScope st) f cdv A outer s H E) →
      PS' ⟨F, none⟩ (WE0 E) (cxOf (L2.CX P w) P w K mg base N qual (defScope st) f cdv A outer s H E) st1 f1 ∧ PN ⟨F, none⟩ (WE0 E) (cxOf (L2.CX P w) P w K mg base N qual (defScope st) f cdv A outer s H E) e f2)
    (hg : ∀ ds es, ds.length = n → g ds = .ok es → ∃ ε1 ε2, f1 (startE N.length ds) = .nx ε1 ∧ f2 ε1 = .ok (es, ε2)) : FnOk P w K mg base (L2.CX P w) (k + 1) f fd ps (SpN F n g) := by
  refine Fu.okX S (fun vs H Q E ⟨ds, G, h1, h2, h3, _⟩ => by rw [← h3.length, h1, hn]) fun cdv A outer s H vs Q E hr h => ?_
  obtain ⟨ds, G, h1, h2, h3, h4⟩ := h
  obtain ⟨⟨t, et, qt⟩, ⟨u, eu, qu⟩⟩ := hb cdv A outer s H E (co_fn hF S hr)
  refine ⟨_, by rw [hst]; exact pss_cons et (pss_one (ps_ret eu)), ?_⟩
  refine qt _ G H (startE N.length ds) (sr_start h2 h3 (by omega)) _ ?_
  have grow : ∀ {G' H' : Hp} {O' : Addr → Prop}, Step G H (Own (L2.start N vs) (startE N.length ds)) G' H' O' → Grow G H G' H' := fun {G' H' O'} st =>
    ⟨st.gg, fun q o h nt => st.hh q o h nt (own_start (F := F)), st.hs, fun q o h => (st.gn q o h).elim .inl fun z => z.elim .inr fun z => (own_start (F := F) z).elim⟩
  cases e0 : g ds with
  | stuck => rw [e0] at h4; exact h4.elim
  | err c => rw [e0] at h4; exact h4.elim
  | ok es =>
    rw [e0] at h4
    obtain ⟨ε1, ε2, e1, e2⟩ := hg ds es h1 e0
    rw [e1]
    intro σ1 G1 H1 s1 st1
    refine qu σ1 G1 H1 ε1 s1 _ ?_
    rw [e2]
    intro a ws G2 H2 s2 st2 ga ha r nh no
    have stt := st1.trans s1.sub st2
    exact h4 a ws G2 H2 (grow stt) s2.hg ga ha r (st1.hs a nh)
end
end PL
/-! PL, part o: a, b, .. = e1, e2, .. by way of a real tuple, some of the values new lists. -/
namespace PL
open PySem PySem.Spec PyProof.Rows L2

def SlRel (F : Fx) (G H : Hp) (O : Addr → Prop) (H0 : Hp) : List Slot → List V → Prop
  | [], vs => vs = []
  | x :: xs, vs => ∃ v r, vs = v :: r ∧ NewOk F G H O x v ∧ (∀ ds q, x = .ow ds → v = .ref q → H0 q = none ∧ ∀ (j : Nat) es, xs[j]? = some (.ow es) → r[j]? = some (.ref q) → False) ∧ SlRel F G H O H0 xs r
theorem SlRel.length {F : Fx} {G H : Hp} {O : Addr → Prop} {H0 : Hp} : ∀ {xs : List Slot} {vs : List V}, SlRel F G H O H0 xs vs → xs.length = vs.length
  | [], vs, h => by simp only [SlRel] at h; rw [h]; rfl
  | x :: xs, vs, h => by
    simp only [SlRel] at h
    obtain ⟨v, r, rfl, _, _, l⟩ := h
    simp [l.length]
theorem SlRel.h0 {F : Fx} {G H : Hp} {O : Addr → Prop} {H0 H1 : Hp} (hs : ∀ q, H0 q = none → H1 q = none) : ∀ {xs : List Slot} {vs : List V}, SlRel F G H O H0 xs vs → SlRel F G H O H1 xs vs
  | [], vs, h => h
  | x :: xs, vs, h => by
    simp only [SlRel] at h ⊢
    obtain ⟨v, r, e, a, b, l⟩ := h
    exact ⟨v, r, e, a, fun ds q e1 e2 => ⟨hs _ (b ds q e1 e2).1, (b ds q e1 e2).2⟩, l.h0 hs⟩
theorem SlRel.fresh {F : Fx} {G H : Hp} {O : Addr → Prop} {H0 : Hp} : ∀ {xs : List Slot} {vs : List V} {j : Nat} {es : List D} {q : Addr}, SlRel F G H O H0 xs vs → xs[j]? = some (.ow es) → vs[j]? = some (.ref q) → H0 q = none
  | [], vs, j, es, q, h, e, _ => by simp at e
  | x :: xs, vs, 0, es, q, h, e, e2 => by
    simp only [SlRel] at h
    obtain ⟨v, r, rfl, a, b, l⟩ := h
    simp at e e2
    exact (b es q e e2).1
  | x :: xs, vs, j + 1, es, q, h, e, e2 => by
    simp only [SlRel] at h
    obtain ⟨v, r, rfl, a, b, l⟩ := h
    simp at e e2
    exact l.fresh e e2
def PSls (M : Fr) (W : WX) (X : Cx) (es : List Expr) (fs : Ev → Res (List Slot × Ev)) : Prop := ∃ t, PA X es t ∧ ∀ (σ : St) (G H : Hp) (ε : Ev), SR M G H σ ε → ∀ Q : List V → Hp → Prop,
  (match fs ε with
    | .ok p => ∀ vs G' H', SR M G' H' σ p.2 → Step G H (Own σ ε) G' H' (Own σ p.2) → SlRel M.F G' H' (Own σ p.2) H p.1 vs → Q vs H'
    | .err c => ErrOk M W G H (Own σ ε) c
    | .stuck => False) → t σ H Q
@[reducible, simp] def slsNil : Ev → Res (List Slot × Ev) := fun ε => .ok ([], ε)
@[reducible, simp] def slsCons (fa : Ev → Res (Slot × Ev)) (fs : Ev → Res (List Slot × Ev)) : Ev → Res (List Slot × Ev) := fun ε => (fa ε).bind fun p => (fs p.2).bind fun q => .ok (p.1 :: q.1, q.2)
section
variable {M : Fr} {W : WX} {X : Cx} {k : Nat} {a : Expr} {es : List Expr} {pos : Pos}
theorem psls_nil : PSls M W X [] slsNil := ⟨_, L2.pa_nil, fun σ G H ε s Q hp => hp [] G H s (Step.refl ..) (by simp only [SlRel])⟩
theorem psls_cons {fa : Ev → Res (Slot × Ev)} {fs : Ev → Res (List Slot × Ev)} (ha : PSl M W X a fa) (hs : PSls M W X es fs) (h1 : starEach (a :: es) X.env = (false, eval a X.env) :: starEach es X.env := by rfl) : PSls M W X (a :: es) (slsCons fa fs) := by
  obtain ⟨ta, ea, qa⟩ := ha
  obtain ⟨ts, et, qs⟩ := hs
  refine ⟨_, L2.pa_cons ea et h1, fun σ G H ε s Q hp => ?_⟩
  refine qa σ G H ε s _ ?_
  simp only [slsCons] at hp
  cases e1 : fa ε with
  | stuck => rw [e1] at hp; exact hp
  | err c => rw [e1] at hp; exact hp
  | ok p =>
    rw [e1] at hp
    simp only [Res.bind_ok] at hp
    intro v G1 H1 s1 st1 r1 n1
    refine qs σ G1 H1 p.2 s1 _ ?_
    cases e2 : fs p.2 with
    | stuck => rw [e2] at hp; exact hp
    | err c => rw [e2] at hp; exact ErrOk.shift s1.sub st1 hp
    | ok q =>
      rw [e2] at hp
      simp only [Res.bind_ok] at hp
      intro vs G2 H2 s2 st2 r2
      refine hp (v :: vs) G2 H2 s2 (st1.trans s1.sub st2) ?_
      simp only [SlRel]
      refine ⟨v, vs, rfl, r1.step s2 st2, fun ds z e3 e4 => ⟨n1 ds z e3 e4, fun j es' e5 e6 => ?_⟩, r2.h0 st1.hs⟩
      exact r1.there e3 e4 (r2.fresh e5 e6)

def setV (σ : St) : List Nat → List V → St
  | i :: is, v :: vs => setV (σ.set i (some v)) is vs
  | _, _ => σ
@[simp] def setS (ε : Ev) : List Nat → List Slot → Ev
  | i :: is, x :: xs => setS (ε.set i x) is xs
  | _, _ => ε
theorem SR.setAll {G H H0 : Hp} : ∀ {is : List Nat} {xs : List Slot} {vs : List V} {σ : St} {ε : Ev}, SR M G H σ ε → is.length = xs.length → (∀ i ∈ is, i < ε.length) → SlRel M.F G H (Own σ ε) H0 xs vs → (M.cp = none ∨ 0 ∉ is) →
    SR M G H (setV σ is vs) (setS ε is xs) ∧ ∀ q, Own (setV σ is vs) (setS ε is xs) q → Own σ ε q ∨ H0 q = none
  | [], xs, vs, σ, ε, s, hl, _, r, _ => by
    cases xs with
    | nil => exact ⟨s, fun q z => .inl z⟩
    | cons x xs => cases hl
  | i :: is, [], vs, σ, ε, s, hl, _, r, _ => by cases hl
  | i :: is, x :: xs, vs, σ, ε, s, hl, hi, r, hc => by
    simp only [SlRel] at r
    obtain ⟨v, vr, rfl, r1, n1, rr⟩ := r
    obtain ⟨s2, o2⟩ := s.setNew (hi i List.mem_cons_self) r1 (hc.imp id fun h z => h (by rw [z]; exact List.mem_cons_self))
    have keep : ∀ {xs' : List Slot} {vs' : List V}, (∀ ds q, x = .ow ds → v = .ref q → ∀ (j : Nat) es, xs'[j]? = some (.ow es) → vs'[j]? = some (.ref q) → False) → SlRel M.F G H (Own σ ε) H0 xs' vs' → SlRel M.F G H (Own (σ.set i (some v)) (ε.set i x)) H0 xs' vs' := by
      intro xs'
      induction xs' with
      | nil => intro vs' _ h; exact h
      | cons y ys ih =>
        intro vs' hd h
        simp only [SlRel] at h ⊢
        obtain ⟨u, ur, rfl, a, b, l⟩ := h
        refine ⟨u, ur, rfl, a.set o2 (fun ds es z h1 h2 h3 h4 => hd es z h3 h4 0 ds (by simp [h1]) (by simp [h2])), b, ih (fun ds q e1 e2 j es e3 e4 => hd ds q e1 e2 (j + 1) es (by simpa using e3) (by simpa using e4)) l⟩
    obtain ⟨s3, o3⟩ := SR.setAll (is := is) s2 (by simpa using hl) (fun j hj => by rw [List.length_set]; exact hi j (List.mem_cons_of_mem _ hj)) (keep (fun ds q e1 e2 => (n1 ds q e1 e2).2) rr) (hc.imp id fun h z => h (List.mem_cons_of_mem _ z))
    refine ⟨s3, fun q z => ?_⟩
    rcases o3 q z with y | y
    · rcases o2 q y with y | ⟨⟨ds, y⟩, y2⟩
      · exact .inl y
      · exact .inr (n1 ds q y y2).1
    · exact .inr y
/-- names alone as targets -/
def PNs (X : Cx) (tgs : List Expr) (is : List Nat) : Prop := tgs.length = is.length ∧ ∃ g, PGs X tgs g ∧ ∀ (vs : List V) (σ : St) (H : Hp) (Q : St → Hp → Prop), vs.length = is.length → Q (setV σ is vs) H → g vs σ H Q
theorem pns_nil : PNs X [] [] := ⟨rfl, _, pgs_nil, fun vs σ H Q h q => by
  cases vs with
  | nil => exact ⟨rfl, q⟩
  | cons v vs => cases h⟩
theorem pns_cons {i : Nat} {x : Str} {es : List Expr} {is : List Nat} (hN : X.N.Nodup) (h : PNs X es is) (hi : X.N[i]? = some x := by rfl) (hx : Loc X.env.scope x := by first | exact Or.inl rfl | exact Or.inr rfl) (hf : X.fn x = true ∨ X.env.scope.names.lookup x = some .local := by first | exact .inl rfl | exact .inr rfl | assumption)
    (hs : (assignEach (.Name x pos :: es) X.env).map (·.2) = assign (.Name x pos) X.env :: (assignEach es X.env).map (·.2) := by rfl) : PNs X (.Name x pos :: es) (i :: is) := by
  obtain ⟨hl, g, p, q⟩ := h
  refine ⟨by simp [hl], _, pgs_cons (pg_name hN hi hx hf) p hs, fun vs σ H Q h hq => ?_⟩
  cases vs with
  | nil => cases h
  | cons v vs => exact ⟨v, vs, rfl, q vs _ H Q (by simpa using h) hq⟩
@[reducible, simp] def sParT (is : List Nat) (fs : Ev → Res (List Slot × Ev)) : Ev → Out := fun ε => (fs ε).out fun p => if is.length = p.1.length ∧ is.all (fun i => decide (i < p.2.length)) = true then .nx (setS p.2 is p.1) else .stuck
theorem ps_parT' (c : CO M W k X) {tgs : List Expr} {is : List Nat} {kt k2 : Nat} {pt pt2 : Pos} {fs : Ev → Res (List Slot × Ev)} (hs : PSls M W X es fs) (hg : PNs X tgs is) (hc : M.cp = none ∨ 0 ∉ is) (hlen : is.length ≤ 1000 := by decide)
    (hsw : swapsWithSole [.Tuple tgs kt pt] (.Tuple es k2 pt2) pos.line X.env = pure false := by rfl) (hw : swappedStores [.Tuple tgs kt pt] (.Tuple es k2 pt2) X.env = pure none := by rfl)
    (h1 : (assignEach [.Tuple tgs kt pt] X.env).map (·.2) = [assign (.Tuple tgs kt pt) X.env] := by rfl) (hn : (assignEach tgs X.env).length = is.length := by rfl) (hst : (assignEach tgs X.env).findIdx? (·.1) = none := by rfl) :
    PS' M W X (.Assign [.Tuple tgs kt pt] (.Tuple es k2 pt2) pos) (sParT is fs) := by
  obtain ⟨t, et, qt⟩ := hs
  obtain ⟨hl, g, pg, qg⟩ := hg
  refine ⟨_, ps_asg (pe_tup et) (pg_tup c.calm pg hn hst) hsw hw h1, fun σ G H ε s E hp => ?_⟩
  refine qt σ G H ε s _ ?_
  simp only [sParT] at hp
  cases e1 : fs ε with
  | stuck => simp only [e1, Res.out] at hp; exact hp
  | err c => simp only [e1, Res.out] at hp; exact hp
  | ok p =>
    simp only [e1, Res.out] at hp
    intro vs G1 H1 s1 st1 r1
    split at hp
    · rename_i hh
      have hv : vs.length = is.length := by rw [← r1.length]; exact hh.1.symm
      refine ⟨by rw [hv]; exact Nat.le_of_lt (small1000 hlen), fun T hT => ?_⟩
      obtain ⟨s2, st2, gT, noT⟩ := s1.newH (o := .tup vs) hT
      refine ⟨T, vs, rfl, .inl (.inl upd_same), hv, qg vs σ _ _ hv ?_⟩
      have r2 : SlRel M.F G1 (upd H1 T (.tup vs)) (Own σ p.2) H p.1 vs := by
        have go : ∀ {xs : List Slot} {ws : List V}, SlRel M.F G1 H1 (Own σ p.2) H xs ws → SlRel M.F G1 (upd H1 T (.tup vs)) (Own σ p.2) H xs ws := by
          intro xs
          induction xs with
          | nil => intro ws h; exact h
          | cons y ys ih =>
            intro ws h
            simp only [SlRel] at h ⊢
            obtain ⟨u, ur, rfl, a, b, l⟩ := h
            exact ⟨u, ur, rfl, a.step s2 st2, b, ih l⟩
        exact go r1
      obtain ⟨s3, o3⟩ := s2.setAll hh.1 (fun i hi => of_decide_eq_true (List.all_eq_true.mp hh.2 i hi)) r2 hc
      have st := st1.trans s1.sub st2
      refine hp _ G1 _ s3 ⟨st.gg, st.hh, st.hs, st.gn, fun q z => ?_⟩
      rcases o3 q z with y | y
      · exact st.oo q y
      · exact .inr y
    · exact hp.elim
end
end PL
/-! PL, part p: plain readings of the mirrors: portions, loops. -/
namespace PL
open PySem L2
@[simp] theorem isi1 (v : Int) : fIsi "int" [.int v] = .ok (.bl true) := by
  have h : kitB "int" "int" = some true := by decide +kernel
  simp [fIsi, tyName, h]
@[simp] theorem isi2 (v : Int) : fIsi "bool" [.int v] = .ok (.bl false) := by
  have h : kitB "int" "bool" = some false := by decide +kernel
  simp [fIsi, tyName, h]
@[simp] theorem isi3 (v : List D) : fIsi "tuple" [.tup v] = .ok (.bl true) := by
  have h : kitB "tuple" "tuple" = some true := by decide +kernel
  simp [fIsi, tyName, h]
abbrev Q := Nat × Nat
def qd (q : Q) : D := .tup [.int (q.1 : Int), .int (q.2 : Int)]
/-- lowest terms, small, a chance of 60 figures -/
def pok (q : Q) : Bool := decide (q.1 ≤ 10 ^ 60) && decide (1 ≤ q.2) && decide (q.2 ≤ 10 ^ 60) && (Nat.gcd q.1 q.2 == 1)
theorem okq_int (x : Int) (n : Nat) : D.okq (n + 1) (.int x) = true := by simp [D.okq]
theorem okq_q (a : Q) (n : Nat) : D.okq (n + 2) (qd a) = true := by simp [qd, D.okq, D.okqL]
theorem okqL_q (n : Nat) : ∀ xs : List Q, D.okqL (n + 2) (xs.map qd) = true
  | [] => by simp [D.okqL]
  | x :: xs => by simp [D.okqL, okq_q, okqL_q n xs]
theorem dEq_int (a b : Int) : dEq (.int a) (.int b) = .ok (.bl (decide (a = b))) := by
  simp [dEq, okq_int _ 19, dEqv, D.pyd, PyData.eqv]
  by_cases h : a = b <;> simp [h]
theorem dNe_int (a b : Int) : dNe (.int a) (.int b) = .ok (.bl (!decide (a = b))) := by
  simp [dNe, okq_int _ 19, dEqv, D.pyd, PyData.eqv]
  by_cases h : a = b <;> simp [h]
theorem eqv_q (a b : Q) : PyData.eqv (qd a).pyd (qd b).pyd = decide (a = b) := by
  obtain ⟨a1, a2⟩ := a
  obtain ⟨b1, b2⟩ := b
  simp only [qd, D.pyd, D.pydL, PyData.eqv, PyData.eqvAll, Prod.mk.injEq, Bool.and_true]
  have e : ∀ x y : Nat, ((x : Int) == (y : Int)) = decide (x = y) := fun x y => by
    by_cases h : x = y
    · subst h; simp
    · have h2 : ¬ (x : Int) = (y : Int) := by omega
      simp [h, h2]
  rw [e, e]
  by_cases h1 : a1 = b1 <;> by_cases h2 : a2 = b2 <;> simp [h1, h2]
theorem eqvL_q : ∀ xs ys : List Q, PyData.eqvAll (D.pydL (xs.map qd)) (D.pydL (ys.map qd)) = decide (xs = ys)
  | [], [] => by simp [D.pydL, PyData.eqvAll]
  | [], y :: ys => by simp [D.pydL, PyData.eqvAll]
  | x :: xs, [] => by simp [D.pydL, PyData.eqvAll]
  | x :: xs, y :: ys => by
    simp only [List.map_cons, D.pydL, PyData.eqvAll, eqv_q, eqvL_q xs ys, List.cons.injEq]
    by_cases h1 : x = y <;> by_cases h2 : xs = ys <;> simp [h1, h2]
theorem dEq_q (a b : Q) : dEq (qd a) (qd b) = .ok (.bl (decide (a = b))) := by simp only [dEq, dEqv, eqv_q, okq_q _ 18, Bool.and_self, if_true]
theorem dNe_q (a b : Q) : dNe (qd a) (qd b) = .ok (.bl (!decide (a = b))) := by simp only [dNe, dEqv, eqv_q, okq_q _ 18, Bool.and_self, if_true]
theorem dEq_tq (a b : List Q) : dEq (.tup (a.map qd)) (.tup (b.map qd)) = .ok (.bl (decide (a = b))) := by
  have h : ∀ xs : List Q, D.okq 20 (.tup (xs.map qd)) = true := fun xs => by
    simp [D.okq]; exact okqL_q _ xs
  simp only [dEq, dEqv, h, Bool.and_self, if_true, D.pyd, PyData.eqv, eqvL_q]
theorem dNe_tq (a b : List Q) : dNe (.tup (a.map qd)) (.tup (b.map qd)) = .ok (.bl (!decide (a = b))) := by
  have h : ∀ xs : List Q, D.okq 20 (.tup (xs.map qd)) = true := fun xs => by
    simp [D.okq]; exact okqL_q _ xs
  simp only [dNe, dEqv, h, Bool.and_self, if_true, D.pyd, PyData.eqv, eqvL_q]
def big : Nat := 2 ^ 2000
def sm (x : Nat) : Bool := Nat.blt x big
theorem sm_log {x : Nat} (h : sm x = true) : x.log2 < 2000 := by
  unfold sm at h
  have h2 : x < 2 ^ 2000 := by
    have := Nat.blt_eq.mp h
    exact this
  by_cases h0 : x = 0
  · subst h0; decide
  · exact (Nat.log2_lt h0).mpr h2
theorem mulOk_sm {x y : Nat} (h1 : sm x = true) (h2 : sm y = true) : mulOk (x : Int) (y : Int) = true := by
  have a := sm_log h1
  have b := sm_log h2
  simp only [mulOk, Int.natAbs_natCast, Bool.or_eq_true, decide_eq_true_eq]
  exact .inl (.inl (by omega))
def lowN (t b : Nat) : Q := (t / Nat.gcd t b, b / Nat.gcd t b)
def plusN (x y : Q) : Option Q := if sm x.1 && sm x.2 && sm y.1 && sm y.2 && Nat.blt 0 (x.2 * y.2) then some (lowN (x.1 * y.2 + y.1 * x.2) (x.2 * y.2)) else none
def timesN (x y : Q) : Option Q := if sm x.1 && sm x.2 && sm y.1 && sm y.2 && Nat.blt 0 (x.2 * y.2) then some (lowN (x.1 * y.1) (x.2 * y.2)) else none
def quotN (x y : Q) : Option Q := if sm x.1 && sm x.2 && sm y.1 && sm y.2 && Nat.blt 0 (x.2 * y.1) then some (lowN (x.1 * y.2) (x.2 * y.1)) else none
theorem log_sm {x y : Nat} (h0 : 0 < x * y) (h1 : sm x = true) (h2 : sm y = true) : (x * y).log2 < 9000 := by
  have a := Nat.blt_eq.mp h1
  have b := Nat.blt_eq.mp h2
  rw [Nat.log2_lt (by omega)]
  have c : x * y < 2 ^ 2000 * 2 ^ 2000 := Nat.mul_lt_mul'' a b
  rw [← Nat.pow_add] at c
  exact Nat.lt_of_lt_of_le c (Nat.pow_le_pow_right (by decide) (by decide))

/-! ### loops -/
/-- what a slot holds by the way -/
@[reducible] def jk : Option D → Slot
  | none => .em
  | some d => .pu d
theorem zipD_map {α β : Type} (f : α → D) (g : β → D) : ∀ (xs : List α) (ys : List β), zipD (xs.map f) (ys.map g) = (xs.zip ys).map fun p => .tup [f p.1, g p.2]
  | [], _ => by simp [zipD]
  | _ :: _, [] => by simp [zipD]
  | x :: xs, y :: ys => by simp [zipD, zipD_map f g xs ys]
theorem enumD_map {α : Type} (f : α → D) : ∀ (xs : List α) (n : Nat), enumD n (xs.map f) = (xs.zipIdx n).map fun p => .tup [.int (p.2 : Int), f p.1]
  | [], _ => by simp [enumD]
  | x :: xs, n => by simp [enumD, enumD_map f xs (n + 1)]
theorem cutD_drop (ds : List D) (k : Nat) : cutD ds (some (k : Int)) none = ds.drop k := by
  unfold cutD
  rw [HT.sIx_nat, HT.sIx_none]
  by_cases h : k ≤ ds.length
  · rw [Nat.min_eq_left h, List.take_of_length_le (by simp)]
  · rw [Nat.min_eq_right (by omega)]
    simp
    omega
theorem cutD_take (ds : List D) (k : Nat) : cutD ds none (some (k : Int)) = ds.take k := by
  unfold cutD
  rw [HT.sIx_nat, HT.sIx_none]
  simp only [List.drop_zero, Nat.sub_zero]
  by_cases h : k ≤ ds.length
  · rw [Nat.min_eq_left h]
  · rw [Nat.min_eq_right (by omega), List.take_of_length_le (Nat.le_refl _), List.take_of_length_le (by omega)]
theorem cutD_from (ds : List D) (k m : Nat) : cutD ds (some (k : Int)) (some (m : Int)) = (ds.take m).drop k := by
  unfold cutD
  rw [HT.sIx_nat, HT.sIx_nat, List.drop_take]
  by_cases h : k ≤ ds.length
  · rw [Nat.min_eq_left h]
    by_cases h2 : m ≤ ds.length
    · rw [Nat.min_eq_left h2]
    · rw [Nat.min_eq_right (by omega), List.take_of_length_le (by simp), List.take_of_length_le (by simp; omega)]
  · rw [show min k ds.length = ds.length from Nat.min_eq_right (by omega), List.drop_eq_nil_of_le (Nat.le_refl ds.length), List.drop_eq_nil_of_le (show ds.length ≤ k by omega)]
    simp
theorem fRange1 {j : Int} {k : Nat} (h : j = (k : Int)) (hk : k ≤ 1000000) : fRange [.int j] = .ok ((List.range k).map fun i : Nat => D.int (i : Int)) := by
  subst h
  show (if Nat.ble (k : Int).natAbs 1000000000 = true then Res.ok (rgD 0 (k : Int).toNat) else .stuck) = _
  rw [if_pos (Nat.ble_eq.mpr (by omega))]
  simp [rgD]
theorem fRange2 {i j : Int} {a k : Nat} (h : i = (a : Int)) (h2 : j = ((a + k : Nat) : Int)) (hk : a + k ≤ 1000000) : fRange [.int i, .int j] = .ok ((List.range k).map fun t : Nat => D.int ((a + t : Nat) : Int)) := by
  subst h
  subst h2
  show (if (Nat.ble (a : Int).natAbs 1000000000 && Nat.ble ((a + k : Nat) : Int).natAbs 1000000000) = true then Res.ok (rgD (a : Int) (((a + k : Nat) : Int) - (a : Int)).toNat) else .stuck) = _
  rw [if_pos (by rw [Nat.ble_eq.mpr (show (a : Int).natAbs ≤ 1000000000 by omega), Nat.ble_eq.mpr (show ((a + k : Nat) : Int).natAbs ≤ 1000000000 by omega)]; rfl), show (((a + k : Nat) : Int) - (a : Int)).toNat = k by omega]
  simp [rgD]
theorem iCall_ok {g : List D → Res (List D)} {fs : Ev → Res (List D × Ev)} {ε ε1 : Ev} {ds ys : List D} (h1 : fs ε = .ok (ds, ε1)) (h2 : g ds = .ok ys) : iCall g fs ε = .ok (ys, ε1) := by
  simp only [iCall, h1, Res.bind_ok, h2]
theorem sSeq_nx {f g : Ev → Out} {ε ε1 : Ev} (h : f ε = .nx ε1) : sSeq f g ε = g ε1 := by simp only [sSeq, h, Out.andThen]
theorem sRet_L {f : Ev → Res (List D × Ev)} {ε ε1 : Ev} {ds : List D} (h : f ε = .ok (ds, ε1)) : sRet (eL f) ε = .rt (.lst ds) ε1 := by simp only [sRet, eL, h, Res.bind_ok, Res.out]
theorem sRet_v {f : Ev → Res (D × Ev)} {ε ε1 : Ev} {d : D} (h : f ε = .ok (d, ε1)) : sRet f ε = .rt d ε1 := by simp only [sRet, h, Res.out]
theorem out_seq {f g : Ev → Out} {ε ε1 : Ev} {r : Res D} (h : f ε = .nx ε1) (h2 : outRes (g ε1) = r) : outRes (sSeq f g ε) = r := by rw [sSeq_nx h]; exact h2
theorem out_retL {f : Ev → Res (List D × Ev)} {ε ε1 : Ev} {ds : List D} (h : f ε = .ok (ds, ε1)) : outRes (sRet (eL f) ε) = .ok (.lst ds) := by rw [sRet_L h]
theorem out_ret {f : Ev → Res (D × Ev)} {ε ε1 : Ev} {d : D} (h : f ε = .ok (d, ε1)) : outRes (sRet f ε) = .ok d := by rw [sRet_v h]
theorem pick_go {α : Type} : ∀ (xs ys : List α), pick (List.range' ys.length xs.length) (ys ++ xs) = xs
  | [], ys => rfl
  | x :: xs, ys => by
    have h := pick_go xs (ys ++ [x])
    unfold pick at h ⊢
    rw [List.length_cons, List.range'_succ, List.filterMap_cons]
    have e : (ys ++ x :: xs)[ys.length]? = some x := by simp
    rw [e]
    simp only [List.length_append, List.length_singleton, List.append_assoc, List.singleton_append] at h
    rw [h]
theorem pick_all {α : Type} (xs : List α) : pick (List.range xs.length) xs = xs := by
  have h := pick_go xs []
  rw [List.range_eq_range']
  simpa using h
theorem pick_rev {α : Type} (xs : List α) : pick (List.range xs.length).reverse xs = xs.reverse := by
  have h := pick_all xs
  unfold pick at h ⊢
  rw [List.filterMap_reverse, h]
theorem pick_rev1 {α : Type} (xs : List α) : pick ((List.range xs.length).drop 1).reverse xs = (xs.drop 1).reverse := by
  cases xs with
  | nil => rfl
  | cons x xs =>
    have h := pick_go xs [x]
    unfold pick at h ⊢
    rw [List.filterMap_reverse, List.length_cons, List.range_eq_range', List.range'_succ, List.drop_one, List.tail_cons, List.drop_one, List.tail_cons]
    simp only [List.length_singleton, List.singleton_append] at h
    rw [Nat.zero_add, h]
theorem bIxL_all : ∀ n, n < 60 → bIxL none none n = (List.range n).reverse := by decide +kernel
theorem bIxL_down : ∀ n, n < 60 → bIxL none (some 0) n = ((List.range n).drop 1).reverse := by decide +kernel
theorem back_all {ds : List D} (h : ds.length < 60) : dBack (.lst ds) none none = .ok (.lst ds.reverse) := by
  simp only [dBack, bIxL_all _ h, List.length_reverse, List.length_range, pick_rev]
  rw [if_pos ⟨by omega, by omega⟩]
theorem back_down {ds : List D} (h : ds.length < 60) : dBack (.lst ds) none (some 0) = .ok (.lst (ds.drop 1).reverse) := by
  simp only [dBack, bIxL_down _ h, List.length_reverse, List.length_drop, List.length_range, pick_rev1]
  rw [if_pos ⟨by omega, by omega⟩]
theorem cutD_init (ds : List D) : cutD ds none (some (-1)) = ds.dropLast := by
  unfold cutD
  rw [HT.sIx_none]
  have e : HT.sIx ds.length ds.length (some (-1)) = ds.length - 1 := by
    show (if (-1 : Int) < 0 then ((-1 : Int) + (ds.length : Int)).toNat else min (-1 : Int).toNat ds.length) = _
    rw [if_pos (by decide)]
    omega
  rw [e, List.drop_zero, Nat.sub_zero, List.dropLast_eq_take]
def foldO {α ι : Type} (φ : α → ι → Option α) : List ι → α → Option α
  | [], a => some a
  | x :: xs, a => match φ a x with
    | some b => foldO φ xs b
    | none => none
def mapO {ι γ : Type} (φ : ι → Option γ) : List ι → Option (List γ)
  | [] => some []
  | x :: xs => match φ x with
    | some c => match mapO φ xs with
      | some cs => some (c :: cs)
      | none => none
    | none => none
/-- for: a fold over known things; β the junk of the slots -/
theorem forF_fold {α β ι : Type} {tgt : D → Ev → Res Ev} {body : Ev → Out} {it : ι → D} {φ : α → ι → Option α} {st : α → β → Ev}
    (h : ∀ a b j a', φ a j = some a' → ∃ ε1, tgt (it j) (st a b) = .ok ε1 ∧ ∃ b', body ε1 = .nx (st a' b')) : ∀ (xs : List ι) (a a' : α) (b : β), foldO φ xs a = some a' → ∃ b', forF tgt body (xs.map it) (st a b) = .nx (st a' b')
  | [], a, a', b, e => by
    simp only [foldO, Option.some.injEq] at e
    subst e
    exact ⟨b, rfl⟩
  | x :: xs, a, a', b, e => by
    simp only [foldO] at e
    cases e1 : φ a x with
    | none => rw [e1] at e; cases e
    | some a1 =>
      rw [e1] at e
      replace e : foldO φ xs a1 = some a' := e
      obtain ⟨ε1, t1, b1, t2⟩ := h a b x a1 e1
      obtain ⟨b2, t3⟩ := forF_fold h xs a1 a' b1 e
      refine ⟨b2, ?_⟩
      simp only [List.map_cons, forF, t1, Res.ne, t2, t3]
/-- a loop that ends at the first that is so -/
theorem forF_find {ι β : Type} {tgt : D → Ev → Res Ev} {body : Ev → Out} {it : ι → D} {p : ι → Bool} {out : ι → D} {st : β → Ev} : ∀ (xs : List ι), (∀ j ∈ xs, ∀ b, ∃ ε1, tgt (it j) (st b) = .ok ε1 ∧ ∃ b', body ε1 = if p j then .rt (out j) (st b') else .nx (st b')) → ∀ b, ∃ b', forF tgt body (xs.map it) (st b) = match xs.find? p with
    | some j => .rt (out j) (st b')
    | none => .nx (st b')
  | [], _, b => ⟨b, rfl⟩
  | x :: xs, h, b => by
    obtain ⟨ε1, t1, b1, t2⟩ := h x List.mem_cons_self b
    cases hp : p x with
    | true =>
      refine ⟨b1, ?_⟩
      simp only [List.map_cons, forF, t1, Res.ne, t2, hp, if_true, List.find?_cons]
    | false =>
      obtain ⟨b2, t3⟩ := forF_find xs (fun j hj => h j (List.mem_cons_of_mem _ hj)) b1
      refine ⟨b2, ?_⟩
      simp only [List.map_cons, forF, t1, Res.ne, t2, hp, Bool.false_eq_true, if_false, List.find?_cons, t3]
theorem sFor_fold {α β ι : Type} {src : Ev → Res (List D × Ev)} {tgt : D → Ev → Res Ev} {body : Ev → Out} (it : ι → D) (φ : α → ι → Option α) (st : α → β → Ev) {ε ε1 : Ev} {ys : List D} {xs : List ι} {a a' : α} {b : β} (hf : foldO φ xs a = some a') (hs : src ε = .ok (ys, ε1)) (hy : ys = xs.map it) (hε : ε1 = st a b)
    (h : ∀ a b j a', φ a j = some a' → ∃ ε1, tgt (it j) (st a b) = .ok ε1 ∧ ∃ b', body ε1 = .nx (st a' b')) : ∃ b', sFor src tgt body ε = .nx (st a' b') := by
  obtain ⟨b', e⟩ := forF_fold h xs a a' b hf
  refine ⟨b', ?_⟩
  simp only [sFor, hs, Res.out, hy, hε, e]
/-- [.. for ..] over known things -/
theorem loopC_map {ι γ : Type} {vs : List Nat} {blk : D → Ev → Res (Option D × Ev)} {it : ι → D} {φ : ι → Option γ} {out : γ → D} {ε : Ev} (hn : noOw ε vs = true) (h : ∀ j c, φ j = some c → blk (it j) ε = .ok (some (out c), ε)) : ∀ (xs : List ι) (cs : List γ) (acc : List D), mapO φ xs = some cs →
    loopC vs blk (xs.map it) ε acc = .ok (acc ++ cs.map out, ε)
  | [], cs, acc, e => by
    simp only [mapO, Option.some.injEq] at e
    subst e
    simp [loopC]
  | x :: xs, cs, acc, e => by
    simp only [mapO] at e
    cases e1 : φ x with
    | none => rw [e1] at e; cases e
    | some c =>
      rw [e1] at e
      simp only at e
      cases e2 : mapO φ xs with
      | none => rw [e2] at e; cases e
      | some cs' =>
        rw [e2] at e
        simp only [Option.some.injEq] at e
        subst e
        have t := loopC_map hn h xs cs' (acc ++ [out c]) e2
        simp only [List.map_cons, loopC, hn, if_true, h x c e1, Res.ne, Res.bind_ok, accD, t, List.append_assoc, List.singleton_append]
/-- .. with a test -/
theorem loopC_filter {ι : Type} {vs : List Nat} {blk : D → Ev → Res (Option D × Ev)} {it : ι → D} {p : ι → Bool} {out : ι → D} {ε : Ev} (hn : noOw ε vs = true) : ∀ (xs : List ι) (acc : List D), (∀ j ∈ xs, blk (it j) ε = .ok (if p j then some (out j) else none, ε)) →
    loopC vs blk (xs.map it) ε acc = .ok (acc ++ (xs.filter p).map out, ε)
  | [], acc, _ => by simp [loopC]
  | x :: xs, acc, h => by
    have t := loopC_filter hn (p := p) (out := out) xs (accD acc (if p x then some (out x) else none)) (fun j hj => h j (List.mem_cons_of_mem _ hj))
    simp only [List.map_cons, loopC, hn, if_true, h x List.mem_cons_self, Res.ne, Res.bind_ok, t]
    by_cases hp : p x = true
    · simp [hp, accD]
    · simp [hp, accD]
theorem eComp_map {ι γ : Type} {vs : List Nat} {src : Ev → Res (List D × Ev)} {tgt : D → Ev → Res Ev} {test : Ev → Res (Bool × Ev)} {elt : Ev → Res (D × Ev)} (it : ι → D) (φ : ι → Option γ) (out : γ → D) {ε ε1 : Ev} {ys : List D} {xs : List ι} {cs : List γ} (hm : mapO φ xs = some cs) (hs : src ε = .ok (ys, ε1)) (hy : ys = xs.map it) (hl : xs.length ≤ 1000000) (hn : noOw ε1 vs = true)
    (h : ∀ j c, φ j = some c → blkF vs tgt test elt (it j) ε1 = .ok (some (out c), ε1)) : eComp vs src tgt test elt ε = .ok (cs.map out, ε1) := by
  have t := loopC_map (it := it) (out := out) hn h xs cs [] hm
  simp only [eComp, hs, Res.bind_ok, hy, List.length_map, hl, if_true, t, List.nil_append]
theorem eComp_filter {ι : Type} {vs : List Nat} {src : Ev → Res (List D × Ev)} {tgt : D → Ev → Res Ev} {test : Ev → Res (Bool × Ev)} {elt : Ev → Res (D × Ev)} (it : ι → D) (p : ι → Bool) (out : ι → D) {ε ε1 : Ev} {ys : List D} {xs : List ι} (hs : src ε = .ok (ys, ε1)) (hy : ys = xs.map it) (hl : xs.length ≤ 1000000) (hn : noOw ε1 vs = true)
    (h : ∀ j ∈ xs, blkF vs tgt test elt (it j) ε1 = .ok (if p j then some (out j) else none, ε1)) : eComp vs src tgt test elt ε = .ok ((xs.filter p).map out, ε1) := by
  have t := loopC_filter (it := it) (out := out) hn xs [] h
  simp only [eComp, hs, Res.bind_ok, hy, List.length_map, hl, if_true, t, List.nil_append]
end PL
namespace PL
@[simp] theorem s_ixN (n : Nat) (i : Int) : L2.ixN n i = if 0 ≤ i then (if i < n then some i.toNat else none) else if -(n : Int) ≤ i then some (i + n).toNat else none := rfl
@[simp] theorem s_atI {α : Type} (xs : List α) (i : Int) : L2.atI xs i = (L2.ixN xs.length i).bind fun j => xs[j]? := rfl
end PL
namespace W92
open PySem L2 PL
@[reducible] def b_is_whole : Ev → Out := (sRet (eAnd (eUn (fun d => fIsi "int" [d]) (eV 0)) (eAnd (eNot (eUn (fun d => fIsi "bool" [d]) (eV 0))) (eCh2 dLe dLe (eV 1) (eV 0) (eV 2)))))
def g_is_whole (ds : List D) : Res D := outRes (b_is_whole (startE 3 ds))
@[reducible] def b_need_whole : Ev → Out := (sIf (bNot (bOf (eCB g_is_whole (aCons (eV 0) (aCons (eV 1) (aCons (eV 2) aNil)))))) (fun _ => .err 0) (fun ε => .nx ε))
def g_need_whole (ds : List D) : Res D := outRes (b_need_whole (startE 3 ds))
@[reducible] def b_is_tuple_of : Ev → Out := (sRet (eAnd (eUn (fun d => fIsi "tuple" [d]) (eV 0)) (eCh2 dLe dLe (eV 1) (eCB fLen (aCons (eV 0) aNil)) (eV 2))))
def g_is_tuple_of (ds : List D) : Res D := outRes (b_is_tuple_of (startE 3 ds))
@[reducible] def b_is_portion : Ev → Out := (sSeq (sIf (bOr (bNot (bOf (eCB g_is_tuple_of (aCons (eV 0) (aCons (eC (.int 2)) (aCons (eC (.int 2)) aNil)))))) (bOr (bNot (bOf (eCB g_is_whole (aCons (eOp dIx (eV 0) (eC (.int 0))) (aCons (eUn dNeg (eC (.int 1000000000000000000000000000000000000000000000000000000000000))) (aCons (eC (.int 1000000000000000000000000000000000000000000000000000000000000)) aNil)))))) (bNot (bOf (eCB g_is_whole (aCons (eOp dIx (eV 0) (eC (.int 1))) (aCons (eC (.int 1)) (aCons (eC (.int 1000000000000000000000000000000000000000000000000000000000000)) aNil)))))))) (sRet (eC (.bl false))) (fun ε => .nx ε))
    (sRet (eOp dEq (eCB fGcd (aCons (eOp dIx (eV 0) (eC (.int 0))) (aCons (eOp dIx (eV 0) (eC (.int 1))) aNil))) (eC (.int 1)))))
def g_is_portion (ds : List D) : Res D := outRes (b_is_portion (startE 1 ds))
@[reducible] def b_lowest : Ev → Out := (sSeq (sTg (tName 2) (eCB fGcd (aCons (eV 0) (aCons (eV 1) aNil))))
    (sSeq (sTg (tName 2) (eIf (bOf (eOp dGt (eV 1) (eC (.int 0)))) (eV 2) (eUn dNeg (eV 2))))
    (sRet (eTup (aCons (eOp dDiv (eV 0) (eV 2)) (aCons (eOp dDiv (eV 1) (eV 2)) aNil))))))
def g_lowest (ds : List D) : Res D := outRes (b_lowest (startE 3 ds))
@[reducible] def b_plus : Ev → Out := (sRet (eCB g_lowest (aCons (eOp dAdd (eOp dMul (eOp dIx (eV 0) (eC (.int 0))) (eOp dIx (eV 1) (eC (.int 1)))) (eOp dMul (eOp dIx (eV 1) (eC (.int 0))) (eOp dIx (eV 0) (eC (.int 1))))) (aCons (eOp dMul (eOp dIx (eV 0) (eC (.int 1))) (eOp dIx (eV 1) (eC (.int 1)))) aNil))))
def g_plus (ds : List D) : Res D := outRes (b_plus (startE 2 ds))
@[reducible] def b_times : Ev → Out := (sRet (eCB g_lowest (aCons (eOp dMul (eOp dIx (eV 0) (eC (.int 0))) (eOp dIx (eV 1) (eC (.int 0)))) (aCons (eOp dMul (eOp dIx (eV 0) (eC (.int 1))) (eOp dIx (eV 1) (eC (.int 1)))) aNil))))
def g_times (ds : List D) : Res D := outRes (b_times (startE 2 ds))
@[reducible] def b_lead : Ev → Out := (sRet (eOp dSub (eOp dMul (eOp dIx (eV 0) (eC (.int 0))) (eOp dIx (eV 1) (eC (.int 1)))) (eOp dMul (eOp dIx (eV 1) (eC (.int 0))) (eOp dIx (eV 0) (eC (.int 1))))))
def g_lead (ds : List D) : Res D := outRes (b_lead (startE 2 ds))
@[reducible] def b_is_small : Ev → Out := (sRet (eAnd (eCB g_is_portion (aCons (eV 0) aNil)) (eCh3 dLe dLe dLe (eC (.int 0)) (eOp dIx (eV 0) (eC (.int 0))) (eOp dIx (eV 0) (eC (.int 1))) (eC (.int 100)))))
def g_is_small (ds : List D) : Res D := outRes (b_is_small (startE 1 ds))
@[reducible] def b_need_small : Ev → Out := (sIf (bNot (bOf (eCB g_is_small (aCons (eV 0) aNil)))) (fun _ => .err 1) (fun ε => .nx ε))
def g_need_small (ds : List D) : Res D := outRes (b_need_small (startE 1 ds))
@[reducible] def b_rest_of_mendedparts : Ev → Out := (sRet (eCB g_lowest (aCons (eOp dSub (eOp dIx (eV 0) (eC (.int 1))) (eOp dIx (eV 0) (eC (.int 0)))) (aCons (eOp dIx (eV 0) (eC (.int 1))) aNil))))
def g_rest_of_mendedparts (ds : List D) : Res D := outRes (b_rest_of_mendedparts (startE 1 ds))
@[reducible] def b_quotient : Ev → Out := (sRet (eCB g_lowest (aCons (eOp dMul (eOp dIx (eV 0) (eC (.int 0))) (eOp dIx (eV 1) (eC (.int 1)))) (aCons (eOp dMul (eOp dIx (eV 0) (eC (.int 1))) (eOp dIx (eV 1) (eC (.int 0)))) aNil))))
def g_quotient (ds : List D) : Res D := outRes (b_quotient (startE 2 ds))
@[reducible, simp] def CS1_fits_mendedparts (ε : Ev) : Res (List D × Ev) := (iSeq (eV 0)) ε
@[reducible, simp] def CT1_fits_mendedparts (d : D) (ε : Ev) : Res Ev := (tName 1) d ε
@[reducible, simp] def CP1_fits_mendedparts (ε : Ev) : Res (Bool × Ev) := (fun ε => .ok (true, ε)) ε
@[reducible, simp] def CE1_fits_mendedparts (ε : Ev) : Res (D × Ev) := (eCB g_is_small (aCons (eV 1) aNil)) ε
@[reducible, simp] def CS2_fits_mendedparts (ε : Ev) : Res (List D × Ev) := (iSeq (eV 0)) ε
@[reducible, simp] def CT2_fits_mendedparts (d : D) (ε : Ev) : Res Ev := (tName 1) d ε
@[reducible, simp] def CP2_fits_mendedparts (ε : Ev) : Res (Bool × Ev) := (fun ε => .ok (true, ε)) ε
@[reducible, simp] def CE2_fits_mendedparts (ε : Ev) : Res (D × Ev) := (eOp dGt (eOp dIx (eV 1) (eC (.int 0))) (eC (.int 0))) ε
@[reducible] def b_fits_mendedparts : Ev → Out := (sRet (eAnd (eCB g_is_tuple_of (aCons (eV 0) (aCons (eC (.int 2)) (aCons (eC (.int 2)) aNil)))) (eAnd (eCB fAll (aCons (eL (eComp [1] CS1_fits_mendedparts CT1_fits_mendedparts CP1_fits_mendedparts CE1_fits_mendedparts)) aNil)) (eCB fAny (aCons (eL (eComp [1] CS2_fits_mendedparts CT2_fits_mendedparts CP2_fits_mendedparts CE2_fits_mendedparts)) aNil)))))
def g_fits_mendedparts (ds : List D) : Res D := outRes (b_fits_mendedparts (startE 2 ds))
@[reducible] def b_need_part : Ev → Out := (sIf (bNot (bOf (eCB g_fits_mendedparts (aCons (eV 0) aNil)))) (fun _ => .err 2) (fun ε => .nx ε))
def g_need_part (ds : List D) : Res D := outRes (b_need_part (startE 1 ds))
@[reducible] def b_long_in : Ev → Out := (sRet (eCB g_quotient (aCons (eOp dIx (eV 0) (eC (.int 1))) (aCons (eCB g_plus (aCons (eOp dIx (eV 0) (eC (.int 0))) (aCons (eOp dIx (eV 0) (eC (.int 1))) aNil))) aNil))))
def g_long_in (ds : List D) : Res D := outRes (b_long_in (startE 1 ds))
@[reducible] def b_long_share : Ev → Out := (sSeq (sDrop (eCB g_need_part (aCons (eV 0) aNil)))
    (sRet (eCB g_long_in (aCons (eV 0) aNil))))
def g_long_share (ds : List D) : Res D := outRes (b_long_share (startE 1 ds))
@[reducible] def b_are_rates : Ev → Out := (sRet (eAnd (eCB g_is_small (aCons (eV 0) aNil)) (eAnd (eOp dGt (eOp dIx (eV 0) (eC (.int 0))) (eC (.int 0))) (eCB g_is_small (aCons (eV 1) aNil)))))
def g_are_rates (ds : List D) : Res D := outRes (b_are_rates (startE 2 ds))
@[reducible] def b_fits_waitingspares : Ev → Out := (sRet (eAnd (eCB g_is_tuple_of (aCons (eV 0) (aCons (eC (.int 3)) (aCons (eC (.int 3)) aNil)))) (eAnd (eCB g_is_whole (aCons (eOp dIx (eV 0) (eC (.int 0))) (aCons (eC (.int 0)) (aCons (eC (.int 6)) aNil)))) (eCB g_are_rates (aCons (eOp dIx (eV 0) (eC (.int 1))) (aCons (eOp dIx (eV 0) (eC (.int 2))) aNil))))))
def g_fits_waitingspares (ds : List D) : Res D := outRes (b_fits_waitingspares (startE 1 ds))
@[reducible] def b_need_spares : Ev → Out := (sIf (bNot (bOf (eCB g_fits_waitingspares (aCons (eV 0) aNil)))) (fun _ => .err 3) (fun ε => .nx ε))
def g_need_spares (ds : List D) : Res D := outRes (b_need_spares (startE 1 ds))
@[reducible, simp] def S1_power (ε : Ev) : Res (List D × Ev) := (iCall fRange (aCons (eV 1) aNil)) ε
@[reducible, simp] def T1_power (d : D) (ε : Ev) : Res Ev := (tName 3) d ε
@[reducible, simp] def B1_power (ε : Ev) : Out := (sTg (tName 2) (eCB g_times (aCons (eV 2) (aCons (eV 0) aNil)))) ε
@[reducible] def b_power : Ev → Out := (sSeq (sTg (tName 2) (eTup (aCons (eC (.int 1)) (aCons (eC (.int 1)) aNil))))
    (sSeq (sFor S1_power T1_power B1_power)
    (sRet (eV 2))))
def g_power (ds : List D) : Res D := outRes (b_power (startE 4 ds))
@[reducible, simp] def CS1_good_of (ε : Ev) : Res (List D × Ev) := (iCall fRange (aCons (eOp dAdd (eV 0) (eC (.int 1))) aNil)) ε
@[reducible, simp] def CT1_good_of (d : D) (ε : Ev) : Res Ev := (tName 3) d ε
@[reducible, simp] def CP1_good_of (ε : Ev) : Res (Bool × Ev) := (fun ε => .ok (true, ε)) ε
@[reducible, simp] def CE1_good_of (ε : Ev) : Res (D × Ev) := (eCB g_times (aCons (eTup (aCons (eCB fComb (aCons (eV 0) (aCons (eV 3) aNil))) (aCons (eC (.int 1)) aNil))) (aCons (eCB g_times (aCons (eCB g_power (aCons (eV 2) (aCons (eV 3) aNil))) (aCons (eCB g_power (aCons (eV 1) (aCons (eOp dSub (eV 0) (eV 3)) aNil))) aNil))) aNil))) ε
@[reducible] def b_good_of : Ev → Out := (sSeq (sTg (tName 2) (eCB g_rest_of_mendedparts (aCons (eV 1) aNil)))
    (sRet (eL (eComp [3] CS1_good_of CT1_good_of CP1_good_of CE1_good_of))))
def g_good_of (ds : List D) : Res D := outRes (b_good_of (startE 4 ds))
@[reducible, simp] def CS1_next_chances (ε : Ev) : Res (List D × Ev) := (iCall fRange (aCons (eOp dAdd (eV 0) (eC (.int 1))) aNil)) ε
@[reducible, simp] def CT1_next_chances (d : D) (ε : Ev) : Res Ev := (tName 4) d ε
@[reducible, simp] def CP1_next_chances (ε : Ev) : Res (Bool × Ev) := (fun ε => .ok (true, ε)) ε
@[reducible, simp] def CE1_next_chances (ε : Ev) : Res (D × Ev) := (eCB g_plus (aCons (eCB g_times (aCons (eCB g_rest_of_mendedparts (aCons (eV 1) aNil)) (aCons (eOp dIx (eV 3) (eV 4)) aNil))) (aCons (eCB g_times (aCons (eV 1) (aCons (eOp dIx (eV 3) (eOp dAdd (eV 4) (eC (.int 1)))) aNil))) aNil))) ε
@[reducible] def b_next_chances : Ev → Out := (sSeq (sTg (tName 3) (eOp dAdd (eCB g_good_of (aCons (eV 0) (aCons (eV 2) aNil))) (eL (aCons (eTup (aCons (eC (.int 0)) (aCons (eC (.int 1)) aNil))) aNil))))
    (sRet (eL (eComp [4] CS1_next_chances CT1_next_chances CP1_next_chances CE1_next_chances))))
def g_next_chances (ds : List D) : Res D := outRes (b_next_chances (startE 5 ds))
@[reducible, simp] def S1_chances_in (ε : Ev) : Res (List D × Ev) := (iCall fEnum (aCons (eCB g_next_chances (aCons (eV 8) (aCons (eV 3) (aCons (eV 4) aNil)))) aNil)) ε
@[reducible, simp] def T1_chances_in (d : D) (ε : Ev) : Res Ev := (tTupD (tsCons (tName 10) (tsCons (tName 11) tsNil))) d ε
@[reducible, simp] def B1_chances_in (ε : Ev) : Out := (sSetIx 7 (eCB g_plus (aCons (eOpV dIx 7 (eV 10)) (aCons (eCB g_times (aCons (eV 9) (aCons (eV 11) aNil))) aNil))) (eV 10)) ε
@[reducible, simp] def S2_chances_in (ε : Ev) : Res (List D × Ev) := (iCall fEnum (aCons (eV 5) aNil)) ε
@[reducible, simp] def T2_chances_in (d : D) (ε : Ev) : Res Ev := (tTupD (tsCons (tName 8) (tsCons (tName 9) tsNil))) d ε
@[reducible, simp] def B2_chances_in (ε : Ev) : Out := (sFor S1_chances_in T1_chances_in B1_chances_in) ε
@[reducible, simp] def S3_chances_in (ε : Ev) : Res (List D × Ev) := (iCall fRange (aCons (eV 1) aNil)) ε
@[reducible, simp] def T3_chances_in (d : D) (ε : Ev) : Res Ev := (tName 6) d ε
@[reducible, simp] def B3_chances_in (ε : Ev) : Out := (sSeq (sOwn 7 (eOpN dRep (eL (aCons (eTup (aCons (eC (.int 0)) (aCons (eC (.int 1)) aNil))) aNil)) (eOp dAdd (eV 2) (eC (.int 1)))))
    (sSeq (sFor S2_chances_in T2_chances_in B2_chances_in)
    (sTg (tName 5) (eZ 7)))) ε
@[reducible] def b_chances_in : Ev → Out := (sSeq (sTg (tTupD (tsCons (tName 2) (tsCons (tName 3) (tsCons (tName 4) tsNil)))) (eV 0))
    (sSeq (sTg (tName 5) (eOp dAdd (eOp dMul (eL (aCons (eTup (aCons (eC (.int 0)) (aCons (eC (.int 1)) aNil))) aNil)) (eV 2)) (eL (aCons (eTup (aCons (eC (.int 1)) (aCons (eC (.int 1)) aNil))) aNil))))
    (sSeq (sFor S3_chances_in T3_chances_in B3_chances_in)
    (sRet (eV 5)))))
def g_chances_in (ds : List D) : Res D := outRes (b_chances_in (startE 12 ds))
@[reducible, simp] def S1_last_in (ε : Ev) : Res (List D × Ev) := (iSeq (eCB g_chances_in (aCons (eV 0) (aCons (eV 1) aNil)))) ε
@[reducible, simp] def T1_last_in (d : D) (ε : Ev) : Res Ev := (tName 3) d ε
@[reducible, simp] def B1_last_in (ε : Ev) : Out := (sTg (tName 2) (eCB g_plus (aCons (eV 2) (aCons (eV 3) aNil)))) ε
@[reducible] def b_last_in : Ev → Out := (sSeq (sTg (tName 2) (eTup (aCons (eC (.int 0)) (aCons (eC (.int 1)) aNil))))
    (sSeq (sFor S1_last_in T1_last_in B1_last_in)
    (sRet (eV 2))))
def g_last_in (ds : List D) : Res D := outRes (b_last_in (startE 4 ds))
@[reducible] def b_last_chance : Ev → Out := (sSeq (sDrop (eCB g_need_spares (aCons (eV 0) aNil)))
    (sSeq (sDrop (eCB g_need_whole (aCons (eV 1) (aCons (eC (.int 0)) (aCons (eC (.int 30)) aNil)))))
    (sRet (eCB g_last_in (aCons (eV 0) (aCons (eV 1) aNil))))))
def g_last_chance (ds : List D) : Res D := outRes (b_last_chance (startE 2 ds))
@[reducible] def b_good_chances : Ev → Out := (sSeq (sDrop (eCB g_need_spares (aCons (eV 0) aNil)))
    (sSeq (sDrop (eCB g_need_whole (aCons (eV 1) (aCons (eC (.int 0)) (aCons (eC (.int 30)) aNil)))))
    (sRet (eCB fTuple (aCons (eCB g_chances_in (aCons (eV 0) (aCons (eV 1) aNil))) aNil)))))
def g_good_chances (ds : List D) : Res D := outRes (b_good_chances (startE 2 ds))
@[reducible, simp] def S1_spares_needed (ε : Ev) : Res (List D × Ev) := (iCall fRange (aCons (eOp dAdd (eC (.int 6)) (eC (.int 1))) aNil)) ε
@[reducible, simp] def T1_spares_needed (d : D) (ε : Ev) : Res Ev := (tName 4) d ε
@[reducible, simp] def B1_spares_needed (ε : Ev) : Out := (sIf (bOf (eOp dGe (eCB g_lead (aCons (eCB g_last_in (aCons (eTup (aCons (eV 4) (aCons (eV 0) (aCons (eV 1) aNil)))) (aCons (eV 2) aNil))) (aCons (eV 3) aNil))) (eC (.int 0)))) (sRet (eV 4)) (fun ε => .nx ε)) ε
@[reducible] def b_spares_needed : Ev → Out := (sSeq (sIf (bNot (bOf (eCB g_are_rates (aCons (eV 0) (aCons (eV 1) aNil))))) (fun _ => .err 3) (fun ε => .nx ε))
    (sSeq (sDrop (eCB g_need_whole (aCons (eV 2) (aCons (eC (.int 0)) (aCons (eC (.int 30)) aNil)))))
    (sSeq (sDrop (eCB g_need_small (aCons (eV 3) aNil)))
    (sSeq (sFor S1_spares_needed T1_spares_needed B1_spares_needed)
    (sRet (eC .non))))))
def g_spares_needed (ds : List D) : Res D := outRes (b_spares_needed (startE 5 ds))
@[reducible] def b_is_chance : Ev → Out := (sRet (eAnd (eCB g_is_portion (aCons (eV 0) aNil)) (eCh3 dLe dLe dLe (eC (.int 0)) (eOp dIx (eV 0) (eC (.int 0))) (eOp dIx (eV 0) (eC (.int 1))) (eC (.int 1000)))))
def g_is_chance (ds : List D) : Res D := outRes (b_is_chance (startE 1 ds))
@[reducible, simp] def CS1_need_parts (ε : Ev) : Res (List D × Ev) := (iSeq (eV 0)) ε
@[reducible, simp] def CT1_need_parts (d : D) (ε : Ev) : Res Ev := (tName 1) d ε
@[reducible, simp] def CP1_need_parts (ε : Ev) : Res (Bool × Ev) := (fun ε => .ok (true, ε)) ε
@[reducible, simp] def CE1_need_parts (ε : Ev) : Res (D × Ev) := (eCB g_is_chance (aCons (eV 1) aNil)) ε
@[reducible] def b_need_parts : Ev → Out := (sIf (bOr (bNot (bOf (eCB g_is_tuple_of (aCons (eV 0) (aCons (eC (.int 0)) (aCons (eC (.int 12)) aNil)))))) (bNot (bOf (eCB fAll (aCons (eL (eComp [1] CS1_need_parts CT1_need_parts CP1_need_parts CE1_need_parts)) aNil))))) (fun _ => .err 4) (fun ε => .nx ε))
def g_need_parts (ds : List D) : Res D := outRes (b_need_parts (startE 2 ds))
@[reducible] def b_rest_of_goodcounts : Ev → Out := (sRet (eTup (aCons (eOp dSub (eOp dIx (eV 0) (eC (.int 1))) (eOp dIx (eV 0) (eC (.int 0)))) (aCons (eOp dIx (eV 0) (eC (.int 1))) aNil))))
def g_rest_of_goodcounts (ds : List D) : Res D := outRes (b_rest_of_goodcounts (startE 1 ds))
@[reducible, simp] def CS1_counts_in (ε : Ev) : Res (List D × Ev) := (iCall fZip (aCons (eV 3) (aCons (eV 4) aNil))) ε
@[reducible, simp] def CT1_counts_in (d : D) (ε : Ev) : Res Ev := (tTupD (tsCons (tName 5) (tsCons (tName 6) tsNil))) d ε
@[reducible, simp] def CP1_counts_in (ε : Ev) : Res (Bool × Ev) := (fun ε => .ok (true, ε)) ε
@[reducible, simp] def CE1_counts_in (ε : Ev) : Res (D × Ev) := (eCB g_plus (aCons (eCB g_times (aCons (eV 5) (aCons (eV 2) aNil))) (aCons (eCB g_times (aCons (eV 6) (aCons (eCB g_rest_of_goodcounts (aCons (eV 2) aNil)) aNil))) aNil))) ε
@[reducible, simp] def S1_counts_in (ε : Ev) : Res (List D × Ev) := (iSeq (eV 0)) ε
@[reducible, simp] def T1_counts_in (d : D) (ε : Ev) : Res Ev := (tName 2) d ε
@[reducible, simp] def B1_counts_in (ε : Ev) : Out := (sSeq (sPar2 3 4 (slP (eOp dAdd (eL (aCons (eTup (aCons (eC (.int 0)) (aCons (eC (.int 1)) aNil))) aNil)) (eV 1))) (slP (eOp dAdd (eV 1) (eL (aCons (eTup (aCons (eC (.int 0)) (aCons (eC (.int 1)) aNil))) aNil)))))
    (sTg (tName 1) (eL (eComp [5, 6] CS1_counts_in CT1_counts_in CP1_counts_in CE1_counts_in)))) ε
@[reducible] def b_counts_in : Ev → Out := (sSeq (sTg (tName 1) (eL (aCons (eTup (aCons (eC (.int 1)) (aCons (eC (.int 1)) aNil))) aNil)))
    (sSeq (sFor S1_counts_in T1_counts_in B1_counts_in)
    (sRet (eV 1))))
def g_counts_in (ds : List D) : Res D := outRes (b_counts_in (startE 7 ds))
@[reducible, simp] def S1_total_of (ε : Ev) : Res (List D × Ev) := (iSeq (eV 0)) ε
@[reducible, simp] def T1_total_of (d : D) (ε : Ev) : Res Ev := (tName 2) d ε
@[reducible, simp] def B1_total_of (ε : Ev) : Out := (sTg (tName 1) (eCB g_plus (aCons (eV 1) (aCons (eV 2) aNil)))) ε
@[reducible] def b_total_of : Ev → Out := (sSeq (sTg (tName 1) (eTup (aCons (eC (.int 0)) (aCons (eC (.int 1)) aNil))))
    (sSeq (sFor S1_total_of T1_total_of B1_total_of)
    (sRet (eV 1))))
def g_total_of (ds : List D) : Res D := outRes (b_total_of (startE 3 ds))
@[reducible] def b_count_chances : Ev → Out := (sSeq (sDrop (eCB g_need_parts (aCons (eV 0) aNil)))
    (sRet (eCB fTuple (aCons (eCB g_counts_in (aCons (eV 0) aNil)) aNil))))
def g_count_chances (ds : List D) : Res D := outRes (b_count_chances (startE 1 ds))
@[reducible] def b_at_least : Ev → Out := (sSeq (sDrop (eCB g_need_parts (aCons (eV 0) aNil)))
    (sSeq (sDrop (eCB g_need_whole (aCons (eV 1) (aCons (eC (.int 0)) (aCons (eOp dAdd (eC (.int 12)) (eC (.int 1))) aNil)))))
    (sRet (eCB g_total_of (aCons (eSl (eCB g_counts_in (aCons (eV 0) aNil)) (oS (eV 1)) oN) aNil)))))
def g_at_least (ds : List D) : Res D := outRes (b_at_least (startE 2 ds))
@[reducible] def b_mean_good : Ev → Out := (sSeq (sDrop (eCB g_need_parts (aCons (eV 0) aNil)))
    (sRet (eCB g_total_of (aCons (eV 0) aNil))))
def g_mean_good (ds : List D) : Res D := outRes (b_mean_good (startE 1 ds))
@[reducible, simp] def WC1_cut (ε : Ev) : Res (Bool × Ev) := (bAnd (bOf (eOp dGt (eV 1) (eC (.int 0)))) (bOf (eOp dEq (eOp dIx (eV 0) (eOp dSub (eV 1) (eC (.int 1)))) (eC (.int 0))))) ε
@[reducible, simp] def WB1_cut (ε : Ev) : Out := (sTg (tName 1) (eOp dSub (eV 1) (eC (.int 1)))) ε
@[reducible] def b_cut : Ev → Out := (sSeq (sTg (tName 1) (eCB fLen (aCons (eV 0) aNil)))
    (sSeq (whileF WC1_cut WB1_cut 1000000)
    (sRet (eCB fTuple (aCons (eSl (eV 0) oN (oS (eV 1))) aNil)))))
def g_cut (ds : List D) : Res D := outRes (b_cut (startE 2 ds))
@[reducible, simp] def CS1_add (ε : Ev) : Res (List D × Ev) := (iCall fZip (aCons (eV 3) (aCons (eV 4) aNil))) ε
@[reducible, simp] def CT1_add (d : D) (ε : Ev) : Res Ev := (tTupD (tsCons (tName 5) (tsCons (tName 6) tsNil))) d ε
@[reducible, simp] def CP1_add (ε : Ev) : Res (Bool × Ev) := (fun ε => .ok (true, ε)) ε
@[reducible, simp] def CE1_add (ε : Ev) : Res (D × Ev) := (eOp dAdd (eV 5) (eV 6)) ε
@[reducible] def b_add : Ev → Out := (sSeq (sTg (tName 2) (eCB fMax2 (aCons (eCB fLen (aCons (eV 0) aNil)) (aCons (eCB fLen (aCons (eV 1) aNil)) aNil))))
    (sSeq (sPar2 3 4 (slP (eOp dAdd (eL (eCN fList (aCons (eV 0) aNil))) (eOp dMul (eL (aCons (eC (.int 0)) aNil)) (eOp dSub (eV 2) (eCB fLen (aCons (eV 0) aNil)))))) (slP (eOp dAdd (eL (eCN fList (aCons (eV 1) aNil))) (eOp dMul (eL (aCons (eC (.int 0)) aNil)) (eOp dSub (eV 2) (eCB fLen (aCons (eV 1) aNil)))))))
    (sRet (eCB g_cut (aCons (eL (eComp [5, 6] CS1_add CT1_add CP1_add CE1_add)) aNil)))))
def g_add (ds : List D) : Res D := outRes (b_add (startE 7 ds))
@[reducible, simp] def S1_multiply (ε : Ev) : Res (List D × Ev) := (iCall fEnum (aCons (eV 1) aNil)) ε
@[reducible, simp] def T1_multiply (d : D) (ε : Ev) : Res Ev := (tTupD (tsCons (tName 5) (tsCons (tName 6) tsNil))) d ε
@[reducible, simp] def B1_multiply (ε : Ev) : Out := (sSetIx 2 (eOp dAdd (eOpV dIx 2 (eOp dAdd (eV 3) (eV 5))) (eOp dMul (eV 4) (eV 6))) (eOp dAdd (eV 3) (eV 5))) ε
@[reducible, simp] def S2_multiply (ε : Ev) : Res (List D × Ev) := (iCall fEnum (aCons (eV 0) aNil)) ε
@[reducible, simp] def T2_multiply (d : D) (ε : Ev) : Res Ev := (tTupD (tsCons (tName 3) (tsCons (tName 4) tsNil))) d ε
@[reducible, simp] def B2_multiply (ε : Ev) : Out := (sFor S1_multiply T1_multiply B1_multiply) ε
@[reducible] def b_multiply : Ev → Out := (sSeq (sOwn 2 (eOpN dRep (eL (aCons (eC (.int 0)) aNil)) (eCB fMax2 (aCons (eOp dSub (eOp dAdd (eCB fLen (aCons (eV 0) aNil)) (eCB fLen (aCons (eV 1) aNil))) (eC (.int 1))) (aCons (eC (.int 0)) aNil)))))
    (sSeq (sFor S2_multiply T2_multiply B2_multiply)
    (sRet (eCB g_cut (aCons (eZ 2) aNil)))))
def g_multiply (ds : List D) : Res D := outRes (b_multiply (startE 7 ds))
@[reducible] def b_need_numbers : Ev → Out := (sSeq (sDrop (eCB g_need_whole (aCons (eV 0) (aCons (eC (.int 0)) (aCons (eC (.int 30)) aNil)))))
    (sDrop (eCB g_need_whole (aCons (eV 1) (aCons (eC (.int 0)) (aCons (eOp dAdd (eC (.int 30)) (eC (.int 1))) aNil))))))
def g_need_numbers (ds : List D) : Res D := outRes (b_need_numbers (startE 2 ds))
@[reducible, simp] def CS1_justs_in (ε : Ev) : Res (List D × Ev) := (iCall fZip (aCons (eV 3) (aCons (eV 4) aNil))) ε
@[reducible, simp] def CT1_justs_in (d : D) (ε : Ev) : Res Ev := (tTupD (tsCons (tName 5) (tsCons (tName 6) tsNil))) d ε
@[reducible, simp] def CP1_justs_in (ε : Ev) : Res (Bool × Ev) := (fun ε => .ok (true, ε)) ε
@[reducible, simp] def CE1_justs_in (ε : Ev) : Res (D × Ev) := (eCB g_add (aCons (eCB g_multiply (aCons (eV 5) (aCons (eTup (aCons (eC (.int 0)) (aCons (eC (.int 1)) aNil))) aNil))) (aCons (eCB g_multiply (aCons (eV 6) (aCons (eTup (aCons (eC (.int 1)) (aCons (eUn dNeg (eC (.int 1))) aNil))) aNil))) aNil))) ε
@[reducible, simp] def S1_justs_in (ε : Ev) : Res (List D × Ev) := (iCall fRange (aCons (eV 0) aNil)) ε
@[reducible, simp] def T1_justs_in (d : D) (ε : Ev) : Res Ev := (tName 2) d ε
@[reducible, simp] def B1_justs_in (ε : Ev) : Out := (sSeq (sPar2 3 4 (slP (eOp dAdd (eL (aCons (eTup aNil) aNil)) (eV 1))) (slP (eOp dAdd (eV 1) (eL (aCons (eTup aNil) aNil)))))
    (sTg (tName 1) (eL (eComp [5, 6] CS1_justs_in CT1_justs_in CP1_justs_in CE1_justs_in)))) ε
@[reducible] def b_justs_in : Ev → Out := (sSeq (sTg (tName 1) (eL (aCons (eTup (aCons (eC (.int 1)) aNil)) aNil)))
    (sSeq (sFor S1_justs_in T1_justs_in B1_justs_in)
    (sRet (eV 1))))
def g_justs_in (ds : List D) : Res D := outRes (b_justs_in (startE 7 ds))
@[reducible, simp] def S1_at_least_in (ε : Ev) : Res (List D × Ev) := (iSeq (eSl (eCB g_justs_in (aCons (eV 0) aNil)) (oS (eV 1)) oN)) ε
@[reducible, simp] def T1_at_least_in (d : D) (ε : Ev) : Res Ev := (tName 3) d ε
@[reducible, simp] def B1_at_least_in (ε : Ev) : Out := (sTg (tName 2) (eCB g_add (aCons (eV 2) (aCons (eV 3) aNil)))) ε
@[reducible] def b_at_least_in : Ev → Out := (sSeq (sTg (tName 2) (eTup aNil))
    (sSeq (sFor S1_at_least_in T1_at_least_in B1_at_least_in)
    (sRet (eV 2))))
def g_at_least_in (ds : List D) : Res D := outRes (b_at_least_in (startE 4 ds))
@[reducible, simp] def S1_value_in (ε : Ev) : Res (List D × Ev) := (iSeq (eBack (eV 0) oN oN)) ε
@[reducible, simp] def T1_value_in (d : D) (ε : Ev) : Res Ev := (tName 4) d ε
@[reducible, simp] def B1_value_in (ε : Ev) : Out := (sPar2 2 3 (slP (eOp dAdd (eOp dMul (eV 2) (eOp dIx (eV 1) (eC (.int 0)))) (eOp dMul (eOp dMul (eV 4) (eV 3)) (eOp dIx (eV 1) (eC (.int 1)))))) (slP (eOp dMul (eV 3) (eOp dIx (eV 1) (eC (.int 1)))))) ε
@[reducible] def b_value_in : Ev → Out := (sSeq (sTg (tTupD (tsCons (tName 2) (tsCons (tName 3) tsNil))) (eTup (aCons (eC (.int 0)) (aCons (eC (.int 1)) aNil))))
    (sSeq (sFor S1_value_in T1_value_in B1_value_in)
    (sRet (eCB g_lowest (aCons (eV 2) (aCons (eV 3) aNil))))))
def g_value_in (ds : List D) : Res D := outRes (b_value_in (startE 5 ds))
@[reducible] def b_at_least_alike : Ev → Out := (sSeq (sIf (bNot (bOf (eCB g_is_chance (aCons (eV 0) aNil)))) (fun _ => .err 1) (fun ε => .nx ε))
    (sSeq (sDrop (eCB g_need_numbers (aCons (eV 1) (aCons (eV 2) aNil))))
    (sRet (eCB g_value_in (aCons (eCB g_at_least_in (aCons (eV 1) (aCons (eV 2) aNil))) (aCons (eV 0) aNil))))))
def g_at_least_alike (ds : List D) : Res D := outRes (b_at_least_alike (startE 3 ds))
@[reducible] def b_is_rate : Ev → Out := (sRet (eAnd (eCB g_is_portion (aCons (eV 0) aNil)) (eAnd (eCh2 dLe dLe (eC (.int 1)) (eOp dIx (eV 0) (eC (.int 0))) (eC (.int 100))) (eOp dLe (eOp dIx (eV 0) (eC (.int 1))) (eC (.int 100))))))
def g_is_rate (ds : List D) : Res D := outRes (b_is_rate (startE 1 ds))
@[reducible] def b_fits_mendladders : Ev → Out := (sSeq (sIf (bOr (bNot (bOf (eCB g_is_tuple_of (aCons (eV 0) (aCons (eC (.int 4)) (aCons (eC (.int 4)) aNil)))))) (bOr (bNot (bOf (eCB g_is_whole (aCons (eOp dIx (eV 0) (eC (.int 0))) (aCons (eC (.int 1)) (aCons (eC (.int 8)) aNil)))))) (bNot (bOf (eCB g_is_whole (aCons (eOp dIx (eV 0) (eC (.int 1))) (aCons (eC (.int 1)) (aCons (eOp dIx (eV 0) (eC (.int 0))) aNil)))))))) (sRet (eC (.bl false))) (fun ε => .nx ε))
    (sRet (eAnd (eCB g_is_rate (aCons (eOp dIx (eV 0) (eC (.int 2))) aNil)) (eCB g_is_rate (aCons (eOp dIx (eV 0) (eC (.int 3))) aNil)))))
def g_fits_mendladders (ds : List D) : Res D := outRes (b_fits_mendladders (startE 1 ds))
@[reducible] def b_need_ladder : Ev → Out := (sIf (bNot (bOf (eCB g_fits_mendladders (aCons (eV 0) aNil)))) (fun _ => .err 2) (fun ε => .nx ε))
def g_need_ladder (ds : List D) : Res D := outRes (b_need_ladder (startE 1 ds))
@[reducible, simp] def CS1_flows_in (ε : Ev) : Res (List D × Ev) := (iCall fRange (aCons (eOp dAdd (eV 1) (eC (.int 1))) aNil)) ε
@[reducible, simp] def CT1_flows_in (d : D) (ε : Ev) : Res Ev := (tName 5) d ε
@[reducible, simp] def CP1_flows_in (ε : Ev) : Res (Bool × Ev) := (fun ε => .ok (true, ε)) ε
@[reducible, simp] def CE1_flows_in (ε : Ev) : Res (D × Ev) := (eTup (aCons (eCB g_times (aCons (eTup (aCons (eV 5) (aCons (eC (.int 1)) aNil))) (aCons (eV 3) aNil))) (aCons (eCB g_times (aCons (eTup (aCons (eCB fMin2 (aCons (eOp dSub (eV 1) (eV 5)) (aCons (eV 2) aNil))) (aCons (eC (.int 1)) aNil))) (aCons (eV 4) aNil))) aNil))) ε
@[reducible] def b_flows_in : Ev → Out := (sSeq (sTg (tTupD (tsCons (tName 1) (tsCons (tName 2) (tsCons (tName 3) (tsCons (tName 4) tsNil))))) (eV 0))
    (sRet (eL (eComp [5] CS1_flows_in CT1_flows_in CP1_flows_in CE1_flows_in))))
def g_flows_in (ds : List D) : Res D := outRes (b_flows_in (startE 6 ds))
@[reducible, simp] def S1_shares_in (ε : Ev) : Res (List D × Ev) := (iCall fZip (aCons (eV 1) (aCons (eSl (eV 1) (oS (eC (.int 1))) oN) aNil))) ε
@[reducible, simp] def T1_shares_in (d : D) (ε : Ev) : Res Ev := (tTupD (tsCons (tTupD (tsCons (tName 4) (tsCons (tName 5) tsNil))) (tsCons (tTupD (tsCons (tName 6) (tsCons (tName 7) tsNil))) tsNil))) d ε
@[reducible, simp] def B1_shares_in (ε : Ev) : Out := (sSeq (sAppend 2 (eCB g_quotient (aCons (eCB g_times (aCons (eOpV dIx 2 (eUn dNeg (eC (.int 1)))) (aCons (eV 5) aNil))) (aCons (eV 6) aNil))))
    (sTg (tName 3) (eCB g_plus (aCons (eV 3) (aCons (eOpV dIx 2 (eUn dNeg (eC (.int 1)))) aNil))))) ε
@[reducible, simp] def CS1_shares_in (ε : Ev) : Res (List D × Ev) := (iSeq (eZ 2)) ε
@[reducible, simp] def CT1_shares_in (d : D) (ε : Ev) : Res Ev := (tName 8) d ε
@[reducible, simp] def CP1_shares_in (ε : Ev) : Res (Bool × Ev) := (fun ε => .ok (true, ε)) ε
@[reducible, simp] def CE1_shares_in (ε : Ev) : Res (D × Ev) := (eCB g_quotient (aCons (eV 8) (aCons (eV 3) aNil))) ε
@[reducible] def b_shares_in : Ev → Out := (sSeq (sParT [1, 2, 3] (slsCons (slP (eCB g_flows_in (aCons (eV 0) aNil))) (slsCons (slN (aCons (eTup (aCons (eC (.int 1)) (aCons (eC (.int 1)) aNil))) aNil)) (slsCons (slP (eTup (aCons (eC (.int 1)) (aCons (eC (.int 1)) aNil)))) slsNil))))
    (sSeq (sFor S1_shares_in T1_shares_in B1_shares_in)
    (sRet (eL (eComp [8] CS1_shares_in CT1_shares_in CP1_shares_in CE1_shares_in)))))
def g_shares_in (ds : List D) : Res D := outRes (b_shares_in (startE 9 ds))
@[reducible] def b_flows_of : Ev → Out := (sSeq (sDrop (eCB g_need_ladder (aCons (eV 0) aNil)))
    (sRet (eCB fTuple (aCons (eCB g_flows_in (aCons (eV 0) aNil)) aNil))))
def g_flows_of (ds : List D) : Res D := outRes (b_flows_of (startE 1 ds))
@[reducible] def b_ladder_shares : Ev → Out := (sSeq (sDrop (eCB g_need_ladder (aCons (eV 0) aNil)))
    (sRet (eCB fTuple (aCons (eCB g_shares_in (aCons (eV 0) aNil)) aNil))))
def g_ladder_shares (ds : List D) : Res D := outRes (b_ladder_shares (startE 1 ds))
@[reducible, simp] def S1_mean_up (ε : Ev) : Res (List D × Ev) := (iCall fEnum (aCons (eCB g_shares_in (aCons (eV 0) aNil)) aNil)) ε
@[reducible, simp] def T1_mean_up (d : D) (ε : Ev) : Res Ev := (tTupD (tsCons (tName 2) (tsCons (tName 3) tsNil))) d ε
@[reducible, simp] def B1_mean_up (ε : Ev) : Out := (sTg (tName 1) (eCB g_plus (aCons (eV 1) (aCons (eCB g_times (aCons (eTup (aCons (eV 2) (aCons (eC (.int 1)) aNil))) (aCons (eV 3) aNil))) aNil)))) ε
@[reducible] def b_mean_up : Ev → Out := (sSeq (sDrop (eCB g_need_ladder (aCons (eV 0) aNil)))
    (sSeq (sTg (tName 1) (eTup (aCons (eC (.int 0)) (aCons (eC (.int 1)) aNil))))
    (sSeq (sFor S1_mean_up T1_mean_up B1_mean_up)
    (sRet (eV 1)))))
def g_mean_up (ds : List D) : Res D := outRes (b_mean_up (startE 4 ds))
@[reducible, simp] def S1_share_from (ε : Ev) : Res (List D × Ev) := (iSeq (eSl (eCB g_shares_in (aCons (eV 0) aNil)) (oS (eV 1)) oN)) ε
@[reducible, simp] def T1_share_from (d : D) (ε : Ev) : Res Ev := (tName 3) d ε
@[reducible, simp] def B1_share_from (ε : Ev) : Out := (sTg (tName 2) (eCB g_plus (aCons (eV 2) (aCons (eV 3) aNil)))) ε
@[reducible] def b_share_from : Ev → Out := (sSeq (sDrop (eCB g_need_ladder (aCons (eV 0) aNil)))
    (sSeq (sDrop (eCB g_need_whole (aCons (eV 1) (aCons (eC (.int 0)) (aCons (eC (.int 8)) aNil)))))
    (sSeq (sTg (tName 2) (eTup (aCons (eC (.int 0)) (aCons (eC (.int 1)) aNil))))
    (sSeq (sFor S1_share_from T1_share_from B1_share_from)
    (sRet (eV 2))))))
def g_share_from (ds : List D) : Res D := outRes (b_share_from (startE 4 ds))
@[reducible, simp] def S1_steps_down (ε : Ev) : Res (List D × Ev) := (iSeq (eBack (eV 0) oN (oS (eC (.int 0))))) ε
@[reducible, simp] def T1_steps_down (d : D) (ε : Ev) : Res Ev := (tTupD (tsCons (tName 3) (tsCons (tName 4) tsNil))) d ε
@[reducible, simp] def B1_steps_down (ε : Ev) : Out := (sSeq (sTg (tName 2) (eCB g_quotient (aCons (eCB g_plus (aCons (eTup (aCons (eC (.int 1)) (aCons (eC (.int 1)) aNil))) (aCons (eCB g_times (aCons (eV 4) (aCons (eV 2) aNil))) aNil))) (aCons (eV 3) aNil))))
    (sAppend 1 (eV 2))) ε
@[reducible] def b_steps_down : Ev → Out := (sSeq (sPar2 1 2 (slN aNil) (slP (eTup (aCons (eC (.int 0)) (aCons (eC (.int 1)) aNil)))))
    (sSeq (sFor S1_steps_down T1_steps_down B1_steps_down)
    (sRet (eBack (eZ 1) oN oN))))
def g_steps_down (ds : List D) : Res D := outRes (b_steps_down (startE 5 ds))
@[reducible, simp] def S1_steps_up (ε : Ev) : Res (List D × Ev) := (iSeq (eSl (eV 0) oN (oS (eUn dNeg (eC (.int 1)))))) ε
@[reducible, simp] def T1_steps_up (d : D) (ε : Ev) : Res Ev := (tTupD (tsCons (tName 3) (tsCons (tName 4) tsNil))) d ε
@[reducible, simp] def B1_steps_up (ε : Ev) : Out := (sSeq (sTg (tName 2) (eCB g_quotient (aCons (eCB g_plus (aCons (eTup (aCons (eC (.int 1)) (aCons (eC (.int 1)) aNil))) (aCons (eCB g_times (aCons (eV 3) (aCons (eV 2) aNil))) aNil))) (aCons (eV 4) aNil))))
    (sAppend 1 (eV 2))) ε
@[reducible] def b_steps_up : Ev → Out := (sSeq (sPar2 1 2 (slN aNil) (slP (eTup (aCons (eC (.int 0)) (aCons (eC (.int 1)) aNil)))))
    (sSeq (sFor S1_steps_up T1_steps_up B1_steps_up)
    (sRet (eZ 1))))
def g_steps_up (ds : List D) : Res D := outRes (b_steps_up (startE 5 ds))
@[reducible, simp] def S1_means_in (ε : Ev) : Res (List D × Ev) := (iSeq (eOp dAdd (eSl (eV 3) (oS (eV 1)) (oS (eV 6))) (eSl (eV 4) (oS (eV 6)) (oS (eV 1))))) ε
@[reducible, simp] def T1_means_in (d : D) (ε : Ev) : Res Ev := (tName 8) d ε
@[reducible, simp] def B1_means_in (ε : Ev) : Out := (sTg (tName 7) (eCB g_plus (aCons (eV 7) (aCons (eV 8) aNil)))) ε
@[reducible, simp] def S2_means_in (ε : Ev) : Res (List D × Ev) := (iCall fRange (aCons (eOp dAdd (eOp dIx (eV 0) (eC (.int 0))) (eC (.int 1))) aNil)) ε
@[reducible, simp] def T2_means_in (d : D) (ε : Ev) : Res Ev := (tName 6) d ε
@[reducible, simp] def B2_means_in (ε : Ev) : Out := (sSeq (sTg (tName 7) (eTup (aCons (eC (.int 0)) (aCons (eC (.int 1)) aNil))))
    (sSeq (sFor S1_means_in T1_means_in B1_means_in)
    (sAppend 5 (eV 7)))) ε
@[reducible] def b_means_in : Ev → Out := (sSeq (sTg (tName 2) (eCB g_flows_in (aCons (eV 0) aNil)))
    (sSeq (sPar2 3 4 (slP (eCB g_steps_down (aCons (eV 2) aNil))) (slP (eCB g_steps_up (aCons (eV 2) aNil))))
    (sSeq (sOwn 5 aNil)
    (sSeq (sFor S2_means_in T2_means_in B2_means_in)
    (sRet (eZ 5))))))
def g_means_in (ds : List D) : Res D := outRes (b_means_in (startE 9 ds))
@[reducible] def b_need_state : Ev → Out := (sSeq (sDrop (eCB g_need_ladder (aCons (eV 0) aNil)))
    (sDrop (eCB g_need_whole (aCons (eV 1) (aCons (eC (.int 0)) (aCons (eOp dIx (eV 0) (eC (.int 0))) aNil))))))
def g_need_state (ds : List D) : Res D := outRes (b_need_state (startE 2 ds))
@[reducible] def b_mean_between : Ev → Out := (sSeq (sDrop (eCB g_need_state (aCons (eV 0) (aCons (eV 1) aNil))))
    (sSeq (sDrop (eCB g_need_state (aCons (eV 0) (aCons (eV 2) aNil))))
    (sRet (eOp dIx (eCB g_means_in (aCons (eV 0) (aCons (eV 2) aNil))) (eV 1)))))
def g_mean_between (ds : List D) : Res D := outRes (b_mean_between (startE 3 ds))
@[reducible] def b1__law_cup : Ev → Out := (sTg (tName 1) (eCB fAbs (aCons (eOp dIx (eOp dAdd (eL (eCN fList (aCons (eV 0) aNil))) (eL (aCons (eC (.int 0)) aNil))) (eC (.int 0))) aNil)))
@[reducible] def b2__law_cup : Ev → Res (List D × Ev) := (aCons (eIf (bOf (eOp dGe (eV 1) (eOp dPow (eC (.int 10)) (eC (.int 18))))) (eOp dDiv (eV 1) (eC (.int 223))) (eC (.int 0))) (aCons (eOp dAdd (eOp dMod (eCB fInt (aCons (eOp dAdd (eOp dMul (eV 1) (eC (.int 467))) (eC (.int 7151))) aNil)) (eC (.int 99901))) (eC (.int 331))) aNil))
def g__law_cup (ds : List D) : Res (List D) := match b1__law_cup (startE 2 ds) with
  | .nx ε => (b2__law_cup ε).bind fun p => .ok p.1
  | _ => .stuck
@[reducible] def b__law_roll : Ev → Out := (sSeq (sIf (bOf (eOp dGt (eOpV dIx 0 (eC (.int 0))) (eC (.int 0)))) (sSeq (sTg (tName 2) (eOp dMod (eCB fInt (aCons (eOpV dIx 0 (eC (.int 0))) aNil)) (eV 1)))
    (sSeq (sSetIx 0 (eOp dDiv (eOpV dIx 0 (eC (.int 0))) (eV 1)) (eC (.int 0)))
    (sRet (eV 2)))) (fun ε => .nx ε))
    (sSeq (sSetIx 0 (eOp dMod (eCB fInt (aCons (eOp dAdd (eOp dMul (eOpV dIx 0 (eC (.int 1))) (eC (.int 103))) (eC (.int 1823))) aNil)) (eC (.int 99901))) (eC (.int 1)))
    (sRet (eOp dMod (eCB fInt (aCons (eOp dDiv (eOpV dIx 0 (eC (.int 1))) (eC (.int 23))) aNil)) (eV 1)))))
def g__law_roll (cs ds : List D) : Res (D × List D) := outC (b__law_roll (startC 3 cs ds))
@[reducible, simp] def S1__law_low (ε : Ev) : Res (List D × Ev) := (iCall fRange (aCons (eC (.int 2000)) aNil)) ε
@[reducible, simp] def T1__law_low (d : D) (ε : Ev) : Res Ev := (tName 4) d ε
@[reducible, simp] def B1__law_low (ε : Ev) : Out := (sSeq (sIf (bOf (eOp dEq (eV 3) (eC (.int 0)))) (sRet (eIf (bOf (eOp dGt (eV 1) (eC (.int 0)))) (eTup (aCons (eOp dDiv (eV 0) (eV 2)) (aCons (eOp dDiv (eV 1) (eV 2)) aNil))) (eTup (aCons (eOp dDiv (eUn dNeg (eV 0)) (eV 2)) (aCons (eOp dDiv (eUn dNeg (eV 1)) (eV 2)) aNil))))) (fun ε => .nx ε))
    (sPar2 2 3 (slP (eV 3)) (slP (eOp dMod (eCB fInt (aCons (eV 2) aNil)) (eV 3))))) ε
@[reducible] def b__law_low : Ev → Out := (sSeq (sPar2 2 3 (slP (eCB fAbs (aCons (eV 0) aNil))) (slP (eCB fAbs (aCons (eV 1) aNil))))
    (sSeq (sFor S1__law_low T1__law_low B1__law_low)
    (sRet (eTup (aCons (eV 0) (aCons (eV 1) aNil))))))
def g__law_low (ds : List D) : Res D := outRes (b__law_low (startE 5 ds))
@[reducible] def b__law_times : Ev → Out := (sRet (eCB g__law_low (aCons (eOp dMul (eOp dIx (eV 0) (eC (.int 0))) (eOp dIx (eV 1) (eC (.int 0)))) (aCons (eOp dMul (eOp dIx (eV 0) (eC (.int 1))) (eOp dIx (eV 1) (eC (.int 1)))) aNil))))
def g__law_times (ds : List D) : Res D := outRes (b__law_times (startE 2 ds))
@[reducible] def b__law_less : Ev → Out := (sRet (eCB g__law_low (aCons (eOp dSub (eOp dMul (eOp dIx (eV 0) (eC (.int 0))) (eOp dIx (eV 1) (eC (.int 1)))) (eOp dMul (eOp dIx (eV 1) (eC (.int 0))) (eOp dIx (eV 0) (eC (.int 1))))) (aCons (eOp dMul (eOp dIx (eV 0) (eC (.int 1))) (eOp dIx (eV 1) (eC (.int 1)))) aNil))))
def g__law_less (ds : List D) : Res D := outRes (b__law_less (startE 2 ds))
@[reducible, simp] def CS1__law_ladder_right (ε : Ev) : Res (List D × Ev) := (iCall fRange (aCons (eC (.int 9)) aNil)) ε
@[reducible, simp] def CT1__law_ladder_right (d : D) (ε : Ev) : Res Ev := (tName 6) d ε
@[reducible, simp] def CP1__law_ladder_right (ε : Ev) : Res (Bool × Ev) := (bOf (eOp dNe (eCB g_share_from (aCons (eV 3) (aCons (eV 6) aNil))) (eCB g_at_least (aCons (eV 5) (aCons (eV 6) aNil))))) ε
@[reducible, simp] def CE1__law_ladder_right (ε : Ev) : Res (D × Ev) := (eV 6) ε
@[reducible] def b__law_ladder_right : Ev → Out := (sSeq (sTg (tTupD (tsCons (tName 3) (tsCons (tName 4) tsNil))) (eTup (aCons (eTup (aCons (eV 0) (aCons (eV 0) (aCons (eV 1) (aCons (eV 2) aNil))))) (aCons (eCB g_long_share (aCons (eTup (aCons (eV 1) (aCons (eV 2) aNil))) aNil)) aNil))))
    (sSeq (sTg (tName 5) (eOp dMul (eTup (aCons (eV 4) aNil)) (eV 0)))
    (sSeq (sIf (bOr (bOf (eOp dNe (eCB g_ladder_shares (aCons (eV 3) aNil)) (eCB g_count_chances (aCons (eV 5) aNil)))) (bOf (eOp dNe (eCB g_mean_up (aCons (eV 3) aNil)) (eCB g_mean_good (aCons (eV 5) aNil))))) (sRet (eC (.bl false))) (fun ε => .nx ε))
    (sRet (eOp dEq (eL (eComp [6] CS1__law_ladder_right CT1__law_ladder_right CP1__law_ladder_right CE1__law_ladder_right)) (eL aNil))))))
def g__law_ladder_right (ds : List D) : Res D := outRes (b__law_ladder_right (startE 7 ds))
@[reducible] def b__law_few_right : Ev → Out := (sSeq (sPar2 4 5 (slP (eTup (aCons (eV 0) (aCons (eV 1) (aCons (eV 2) (aCons (eV 3) aNil)))))) (slP (eTup (aCons (eV 0) (aCons (eV 0) (aCons (eV 2) (aCons (eV 3) aNil)))))))
    (sSeq (sIf (bOr (bOf (eOp dLt (eOp dIx (eCB g__law_less (aCons (eCB g_mean_up (aCons (eV 5) aNil)) (aCons (eCB g_mean_up (aCons (eV 4) aNil)) aNil))) (eC (.int 0))) (eC (.int 0)))) (bOf (eOp dNe (eOp dEq (eCB g_mean_up (aCons (eV 5) aNil)) (eCB g_mean_up (aCons (eV 4) aNil))) (eOp dEq (eV 1) (eV 0))))) (sRet (eC (.bl false))) (fun ε => .nx ε))
    (sSeq (sTg (tName 6) (eOp dIx (eOp dIx (eCB g_flows_of (aCons (eV 5) aNil)) (eC (.int 0))) (eC (.int 1))))
    (sRet (eOp dEq (eCB g__law_times (aCons (eCB g_mean_between (aCons (eV 5) (aCons (eC (.int 0)) (aCons (eC (.int 1)) aNil)))) (aCons (eV 6) aNil))) (eTup (aCons (eC (.int 1)) (aCons (eC (.int 1)) aNil))))))))
def g__law_few_right (ds : List D) : Res D := outRes (b__law_few_right (startE 7 ds))
@[reducible, simp] def S1__law_spares_right (ε : Ev) : Res (List D × Ev) := (iCall fRange (aCons (eOp dAdd (eV 0) (eC (.int 1))) aNil)) ε
@[reducible, simp] def T1__law_spares_right (d : D) (ε : Ev) : Res Ev := (tName 9) d ε
@[reducible, simp] def B1__law_spares_right (ε : Ev) : Out := (sSeq (sTg (tName 10) (eIf (bOf (eOp dGe (eOp dAdd (eOp dSub (eV 2) (eV 0)) (eV 9)) (eC (.int 0)))) (eOp dIx (eV 7) (eOp dAdd (eOp dSub (eV 2) (eV 0)) (eV 9))) (eTup (aCons (eC (.int 0)) (aCons (eC (.int 1)) aNil)))))
    (sIf (bOf (eOp dNe (eOp dIx (eV 8) (eV 9)) (eV 10))) (sRet (eC (.bl false))) (fun ε => .nx ε))) ε
@[reducible] def b__law_spares_right : Ev → Out := (sSeq (sPar2 3 4 (slP (eTup (aCons (eV 0) (aCons (eV 1) (aCons (eTup (aCons (eC (.int 0)) (aCons (eC (.int 1)) aNil))) aNil))))) (slP (eCB g__law_less (aCons (eTup (aCons (eC (.int 1)) (aCons (eC (.int 1)) aNil))) (aCons (eV 1) aNil)))))
    (sSeq (sTg (tName 5) (eOp dMul (eTup (aCons (eV 4) aNil)) (eV 2)))
    (sSeq (sTg (tName 6) (eIf (bOf (eOp dGt (eV 2) (eV 0))) (eOp dSub (eV 2) (eV 0)) (eC (.int 0))))
    (sSeq (sIf (bOr (bOf (eOp dNe (eCB g_last_chance (aCons (eV 3) (aCons (eV 2) aNil))) (eCB g_at_least (aCons (eV 5) (aCons (eV 6) aNil))))) (bOf (eOp dNe (eCB g_last_chance (aCons (eV 3) (aCons (eV 2) aNil))) (eCB g_at_least_alike (aCons (eV 4) (aCons (eV 2) (aCons (eV 6) aNil))))))) (sRet (eC (.bl false))) (fun ε => .nx ε))
    (sSeq (sPar2 7 8 (slP (eCB g_count_chances (aCons (eV 5) aNil))) (slP (eCB g_good_chances (aCons (eV 3) (aCons (eV 2) aNil)))))
    (sSeq (sFor S1__law_spares_right T1__law_spares_right B1__law_spares_right)
    (sRet (eC (.bl true)))))))))
def g__law_spares_right (ds : List D) : Res D := outRes (b__law_spares_right (startE 11 ds))
@[reducible, simp] def CS1__law_needed_right (ε : Ev) : Res (List D × Ev) := (iCall fRange (aCons (eC (.int 7)) aNil)) ε
@[reducible, simp] def CT1__law_needed_right (d : D) (ε : Ev) : Res Ev := (tName 5) d ε
@[reducible, simp] def CP1__law_needed_right (ε : Ev) : Res (Bool × Ev) := (bOf (eOp dGe (eOp dIx (eCB g__law_less (aCons (eCB g_at_least (aCons (eV 3) (aCons (eIf (bOf (eOp dGt (eV 1) (eV 5))) (eOp dSub (eV 1) (eV 5)) (eC (.int 0))) aNil))) (aCons (eV 2) aNil))) (eC (.int 0))) (eC (.int 0)))) ε
@[reducible, simp] def CE1__law_needed_right (ε : Ev) : Res (D × Ev) := (eV 5) ε
@[reducible] def b__law_needed_right : Ev → Out := (sSeq (sTg (tName 3) (eOp dMul (eTup (aCons (eCB g__law_less (aCons (eTup (aCons (eC (.int 1)) (aCons (eC (.int 1)) aNil))) (aCons (eV 0) aNil))) aNil)) (eV 1)))
    (sSeq (sTg (tName 4) (eL (eComp [5] CS1__law_needed_right CT1__law_needed_right CP1__law_needed_right CE1__law_needed_right)))
    (sRet (eOp dEq (eCB g_spares_needed (aCons (eV 0) (aCons (eTup (aCons (eC (.int 0)) (aCons (eC (.int 1)) aNil))) (aCons (eV 1) (aCons (eV 2) aNil))))) (eIf (bOf (eOp dNe (eV 4) (eL aNil))) (eOp dIx (eV 4) (eC (.int 0))) (eC .non))))))
def g__law_needed_right (ds : List D) : Res D := outRes (b__law_needed_right (startE 6 ds))
@[reducible, simp] def S1_law (ε : Ev) : Res (List D × Ev) := (iCall fRange (aCons (eC (.int 6)) aNil)) ε
@[reducible, simp] def T1_law (d : D) (ε : Ev) : Res Ev := (tName 2) d ε
@[reducible, simp] def B1_law (ε : Ev) : Out := (sSeq (sTg (tName 3) (eOp dAdd (eC (.int 1)) (eCallC 1 g__law_roll (aCons (eC (.int 6)) aNil))))
    (sSeq (sTg (tName 4) (eCB g__law_low (aCons (eOp dAdd (eC (.int 1)) (eCallC 1 g__law_roll (aCons (eC (.int 5)) aNil))) (aCons (eOp dAdd (eC (.int 5)) (eCallC 1 g__law_roll (aCons (eC (.int 4)) aNil))) aNil))))
    (sSeq (sTg (tName 5) (eCB g__law_low (aCons (eOp dAdd (eC (.int 1)) (eCallC 1 g__law_roll (aCons (eC (.int 5)) aNil))) (aCons (eOp dAdd (eC (.int 5)) (eCallC 1 g__law_roll (aCons (eC (.int 4)) aNil))) aNil))))
    (sSeq (sIf (bOr (bNot (bOf (eCB g__law_ladder_right (aCons (eV 3) (aCons (eV 4) (aCons (eV 5) aNil)))))) (bNot (bOf (eCB g__law_few_right (aCons (eV 3) (aCons (eOp dAdd (eC (.int 1)) (eCallC 1 g__law_roll (aCons (eV 3) aNil))) (aCons (eV 4) (aCons (eV 5) aNil)))))))) (sRet (eC (.bl false))) (fun ε => .nx ε))
    (sSeq (sTg (tName 6) (eCallC 1 g__law_roll (aCons (eC (.int 9)) aNil)))
    (sSeq (sIf (bNot (bOf (eCB g__law_spares_right (aCons (eCallC 1 g__law_roll (aCons (eC (.int 5)) aNil)) (aCons (eV 4) (aCons (eV 6) aNil)))))) (sRet (eC (.bl false))) (fun ε => .nx ε))
    (sIf (bNot (bOf (eCB g__law_needed_right (aCons (eV 4) (aCons (eV 6) (aCons (eCB g__law_low (aCons (eCallC 1 g__law_roll (aCons (eC (.int 11)) aNil)) (aCons (eC (.int 10)) aNil))) aNil)))))) (sRet (eC (.bl false))) (fun ε => .nx ε)))))))) ε
@[reducible, simp] def S2_law (ε : Ev) : Res (List D × Ev) := (iSeq (eTup (aCons (eTup (aCons (eC (.int 1)) (aCons (eTup (aCons (eC (.int 1)) (aCons (eC (.int 1)) aNil))) (aCons (eTup (aCons (eC (.int 1)) (aCons (eC (.int 3)) aNil))) aNil)))) (aCons (eTup (aCons (eC (.int 8)) (aCons (eTup (aCons (eC (.int 1)) (aCons (eC (.int 10)) aNil))) (aCons (eTup (aCons (eC (.int 9)) (aCons (eC (.int 10)) aNil))) aNil)))) (aCons (eTup (aCons (eC (.int 4)) (aCons (eTup (aCons (eC (.int 2)) (aCons (eC (.int 3)) aNil))) (aCons (eTup (aCons (eC (.int 1)) (aCons (eC (.int 7)) aNil))) aNil)))) (aCons (eTup (aCons (eC (.int 2)) (aCons (eTup (aCons (eC (.int 1)) (aCons (eC (.int 1)) aNil))) (aCons (eTup (aCons (eC (.int 1)) (aCons (eC (.int 1)) aNil))) aNil)))) aNil)))))) ε
@[reducible, simp] def T2_law (d : D) (ε : Ev) : Res Ev := (tTupD (tsCons (tName 3) (tsCons (tName 4) (tsCons (tName 5) tsNil)))) d ε
@[reducible, simp] def B2_law (ε : Ev) : Out := (sIf (bOr (bNot (bOf (eCB g__law_ladder_right (aCons (eV 3) (aCons (eV 4) (aCons (eV 5) aNil)))))) (bNot (bOf (eCB g__law_few_right (aCons (eV 3) (aCons (eC (.int 1)) (aCons (eV 4) (aCons (eV 5) aNil)))))))) (sRet (eC (.bl false))) (fun ε => .nx ε)) ε
@[reducible, simp] def S3_law (ε : Ev) : Res (List D × Ev) := (iSeq (eTup (aCons (eTup (aCons (eC (.int 0)) (aCons (eTup (aCons (eC (.int 1)) (aCons (eC (.int 3)) aNil))) (aCons (eC (.int 4)) aNil)))) (aCons (eTup (aCons (eC (.int 6)) (aCons (eTup (aCons (eC (.int 1)) (aCons (eC (.int 1)) aNil))) (aCons (eC (.int 6)) aNil)))) (aCons (eTup (aCons (eC (.int 6)) (aCons (eTup (aCons (eC (.int 1)) (aCons (eC (.int 1)) aNil))) (aCons (eC (.int 7)) aNil)))) (aCons (eTup (aCons (eC (.int 3)) (aCons (eTup (aCons (eC (.int 9)) (aCons (eC (.int 10)) aNil))) (aCons (eC (.int 12)) aNil)))) (aCons (eTup (aCons (eC (.int 2)) (aCons (eTup (aCons (eC (.int 1)) (aCons (eC (.int 7)) aNil))) (aCons (eC (.int 0)) aNil)))) (aCons (eTup (aCons (eC (.int 1)) (aCons (eTup (aCons (eC (.int 2)) (aCons (eC (.int 5)) aNil))) (aCons (eC (.int 1)) aNil)))) aNil)))))))) ε
@[reducible, simp] def T3_law (d : D) (ε : Ev) : Res Ev := (tTupD (tsCons (tName 8) (tsCons (tName 4) (tsCons (tName 6) tsNil)))) d ε
@[reducible, simp] def B3_law (ε : Ev) : Out := (sIf (bOr (bNot (bOf (eCB g__law_spares_right (aCons (eV 8) (aCons (eV 4) (aCons (eV 6) aNil)))))) (bNot (bOf (eCB g__law_needed_right (aCons (eV 4) (aCons (eV 6) (aCons (eTup (aCons (eC (.int 1)) (aCons (eC (.int 2)) aNil))) aNil))))))) (sRet (eC (.bl false))) (fun ε => .nx ε)) ε
@[reducible] def b_law : Ev → Out := (sSeq (sOwn 1 (eCallN g__law_cup (aCons (eV 0) aNil)))
    (sSeq (sFor S1_law T1_law B1_law)
    (sSeq (sTg (tName 7) (eL (aCons (eCB g_ladder_shares (aCons (eTup (aCons (eC (.int 3)) (aCons (eC (.int 3)) (aCons (eTup (aCons (eC (.int 1)) (aCons (eC (.int 4)) aNil))) (aCons (eTup (aCons (eC (.int 1)) (aCons (eC (.int 2)) aNil))) aNil))))) aNil)) (aCons (eCB g_mean_up (aCons (eTup (aCons (eC (.int 3)) (aCons (eC (.int 3)) (aCons (eTup (aCons (eC (.int 1)) (aCons (eC (.int 4)) aNil))) (aCons (eTup (aCons (eC (.int 1)) (aCons (eC (.int 2)) aNil))) aNil))))) aNil)) aNil))))
    (sSeq (sTg (tName 7) (eOp dAdd (eV 7) (eL (aCons (eCB g_last_chance (aCons (eTup (aCons (eC (.int 2)) (aCons (eTup (aCons (eC (.int 1)) (aCons (eC (.int 3)) aNil))) (aCons (eTup (aCons (eC (.int 0)) (aCons (eC (.int 1)) aNil))) aNil)))) (aCons (eC (.int 5)) aNil))) (aCons (eCB g_good_chances (aCons (eTup (aCons (eC (.int 2)) (aCons (eTup (aCons (eC (.int 1)) (aCons (eC (.int 3)) aNil))) (aCons (eTup (aCons (eC (.int 0)) (aCons (eC (.int 1)) aNil))) aNil)))) (aCons (eC (.int 3)) aNil))) aNil)))))
    (sSeq (sIf (bOf (eOp dNe (eV 7) (eL (aCons (eTup (aCons (eTup (aCons (eC (.int 1)) (aCons (eC (.int 27)) aNil))) (aCons (eTup (aCons (eC (.int 2)) (aCons (eC (.int 9)) aNil))) (aCons (eTup (aCons (eC (.int 4)) (aCons (eC (.int 9)) aNil))) (aCons (eTup (aCons (eC (.int 8)) (aCons (eC (.int 27)) aNil))) aNil))))) (aCons (eTup (aCons (eC (.int 2)) (aCons (eC (.int 1)) aNil))) (aCons (eTup (aCons (eC (.int 64)) (aCons (eC (.int 81)) aNil))) (aCons (eTup (aCons (eTup (aCons (eC (.int 2)) (aCons (eC (.int 9)) aNil))) (aCons (eTup (aCons (eC (.int 4)) (aCons (eC (.int 9)) aNil))) (aCons (eTup (aCons (eC (.int 8)) (aCons (eC (.int 27)) aNil))) aNil)))) aNil))))))) (sRet (eC (.bl false))) (fun ε => .nx ε))
    (sSeq (sFor S2_law T2_law B2_law)
    (sSeq (sFor S3_law T3_law B3_law)
    (sRet (eC (.bl true))))))))))
def g_law (ds : List D) : Res D := outRes (b_law (startE 9 ds))
end W92

namespace W92
open PySem PySem.Spec PyProof.Rows L2 PL
def topS (i : Nat) : Stmt := PySem.Challenge.pw_roadsfail_k92_whole_ladders_and_spares_a.main.body.getD i (.Pass ⟨0, 0, 0, 0⟩)
abbrev s_is_whole : Stmt := topS 9
theorem sc_is_whole : FnScope ["value", "low", "high"] ["value", "low", "high"] (defScope s_is_whole) := ⟨rfl, rfl, rfl, by decide +kernel, rfl, by decide +kernel, by decide +kernel⟩
abbrev s_need_whole : Stmt := topS 10
theorem sc_need_whole : FnScope ["value", "low", "high"] ["value", "low", "high"] (defScope s_need_whole) := ⟨rfl, rfl, rfl, by decide +kernel, rfl, by decide +kernel, by decide +kernel⟩
abbrev s_is_tuple_of : Stmt := topS 11
theorem sc_is_tuple_of : FnScope ["value", "low", "high"] ["value", "low", "high"] (defScope s_is_tuple_of) := ⟨rfl, rfl, rfl, by decide +kernel, rfl, by decide +kernel, by decide +kernel⟩
abbrev s_is_portion : Stmt := topS 14
theorem sc_is_portion : FnScope ["value"] ["value"] (defScope s_is_portion) := ⟨rfl, rfl, rfl, by decide +kernel, rfl, by decide +kernel, by decide +kernel⟩
abbrev s_lowest : Stmt := topS 15
theorem sc_lowest : FnScope ["top", "bottom", "shared"] ["top", "bottom"] (defScope s_lowest) := ⟨rfl, rfl, rfl, by decide +kernel, rfl, by decide +kernel, by decide +kernel⟩
abbrev s_plus : Stmt := topS 16
theorem sc_plus : FnScope ["one", "other"] ["one", "other"] (defScope s_plus) := ⟨rfl, rfl, rfl, by decide +kernel, rfl, by decide +kernel, by decide +kernel⟩
abbrev s_times : Stmt := topS 17
theorem sc_times : FnScope ["one", "other"] ["one", "other"] (defScope s_times) := ⟨rfl, rfl, rfl, by decide +kernel, rfl, by decide +kernel, by decide +kernel⟩
abbrev s_lead : Stmt := topS 18
theorem sc_lead : FnScope ["one", "other"] ["one", "other"] (defScope s_lead) := ⟨rfl, rfl, rfl, by decide +kernel, rfl, by decide +kernel, by decide +kernel⟩
abbrev s_is_small : Stmt := topS 22
theorem sc_is_small : FnScope ["value"] ["value"] (defScope s_is_small) := ⟨rfl, rfl, rfl, by decide +kernel, rfl, by decide +kernel, by decide +kernel⟩
abbrev s_need_small : Stmt := topS 23
theorem sc_need_small : FnScope ["value"] ["value"] (defScope s_need_small) := ⟨rfl, rfl, rfl, by decide +kernel, rfl, by decide +kernel, by decide +kernel⟩
abbrev s_rest_of_mendedparts : Stmt := topS 24
theorem sc_rest_of_mendedparts : FnScope ["part"] ["part"] (defScope s_rest_of_mendedparts) := ⟨rfl, rfl, rfl, by decide +kernel, rfl, by decide +kernel, by decide +kernel⟩
abbrev s_quotient : Stmt := topS 26
theorem sc_quotient : FnScope ["one", "other"] ["one", "other"] (defScope s_quotient) := ⟨rfl, rfl, rfl, by decide +kernel, rfl, by decide +kernel, by decide +kernel⟩
abbrev s_fits_mendedparts : Stmt := topS 27
theorem sc_fits_mendedparts : FnScope ["value", "part"] ["value"] (defScope s_fits_mendedparts) := ⟨rfl, rfl, rfl, by decide +kernel, rfl, by decide +kernel, by decide +kernel⟩
abbrev s_need_part : Stmt := topS 29
theorem sc_need_part : FnScope ["part"] ["part"] (defScope s_need_part) := ⟨rfl, rfl, rfl, by decide +kernel, rfl, by decide +kernel, by decide +kernel⟩
abbrev s_long_in : Stmt := topS 30
theorem sc_long_in : FnScope ["part"] ["part"] (defScope s_long_in) := ⟨rfl, rfl, rfl, by decide +kernel, rfl, by decide +kernel, by decide +kernel⟩
abbrev s_long_share : Stmt := topS 31
theorem sc_long_share : FnScope ["part"] ["part"] (defScope s_long_share) := ⟨rfl, rfl, rfl, by decide +kernel, rfl, by decide +kernel, by decide +kernel⟩
abbrev s_are_rates : Stmt := topS 34
theorem sc_are_rates : FnScope ["fail", "wait"] ["fail", "wait"] (defScope s_are_rates) := ⟨rfl, rfl, rfl, by decide +kernel, rfl, by decide +kernel, by decide +kernel⟩
abbrev s_fits_waitingspares : Stmt := topS 35
theorem sc_fits_waitingspares : FnScope ["value"] ["value"] (defScope s_fits_waitingspares) := ⟨rfl, rfl, rfl, by decide +kernel, rfl, by decide +kernel, by decide +kernel⟩
abbrev s_need_spares : Stmt := topS 37
theorem sc_need_spares : FnScope ["spares"] ["spares"] (defScope s_need_spares) := ⟨rfl, rfl, rfl, by decide +kernel, rfl, by decide +kernel, by decide +kernel⟩
abbrev s_power : Stmt := topS 38
theorem sc_power : FnScope ["part", "n", "found", "turn"] ["part", "n"] (defScope s_power) := ⟨rfl, rfl, rfl, by decide +kernel, rfl, by decide +kernel, by decide +kernel⟩
abbrev s_good_of : Stmt := topS 39
theorem sc_good_of : FnScope ["s", "wait", "rest", "k"] ["s", "wait"] (defScope s_good_of) := ⟨rfl, rfl, rfl, by decide +kernel, rfl, by decide +kernel, by decide +kernel⟩
abbrev s_next_chances : Stmt := topS 40
theorem sc_next_chances : FnScope ["s", "fail", "wait", "good", "k"] ["s", "fail", "wait"] (defScope s_next_chances) := ⟨rfl, rfl, rfl, by decide +kernel, rfl, by decide +kernel, by decide +kernel⟩
abbrev s_chances_in : Stmt := topS 41
theorem sc_chances_in : FnScope ["spares", "steps", "s", "fail", "wait", "found", "turn", "later", "many", "share", "k", "chance"] ["spares", "steps"] (defScope s_chances_in) := ⟨rfl, rfl, rfl, by decide +kernel, rfl, by decide +kernel, by decide +kernel⟩
abbrev s_last_in : Stmt := topS 42
theorem sc_last_in : FnScope ["spares", "steps", "found", "share"] ["spares", "steps"] (defScope s_last_in) := ⟨rfl, rfl, rfl, by decide +kernel, rfl, by decide +kernel, by decide +kernel⟩
abbrev s_last_chance : Stmt := topS 43
theorem sc_last_chance : FnScope ["spares", "steps"] ["spares", "steps"] (defScope s_last_chance) := ⟨rfl, rfl, rfl, by decide +kernel, rfl, by decide +kernel, by decide +kernel⟩
abbrev s_good_chances : Stmt := topS 44
theorem sc_good_chances : FnScope ["spares", "steps"] ["spares", "steps"] (defScope s_good_chances) := ⟨rfl, rfl, rfl, by decide +kernel, rfl, by decide +kernel, by decide +kernel⟩
abbrev s_spares_needed : Stmt := topS 45
theorem sc_spares_needed : FnScope ["fail", "wait", "steps", "chance", "s"] ["fail", "wait", "steps", "chance"] (defScope s_spares_needed) := ⟨rfl, rfl, rfl, by decide +kernel, rfl, by decide +kernel, by decide +kernel⟩
abbrev s_is_chance : Stmt := topS 49
theorem sc_is_chance : FnScope ["value"] ["value"] (defScope s_is_chance) := ⟨rfl, rfl, rfl, by decide +kernel, rfl, by decide +kernel, by decide +kernel⟩
abbrev s_need_parts : Stmt := topS 50
theorem sc_need_parts : FnScope ["parts", "part"] ["parts"] (defScope s_need_parts) := ⟨rfl, rfl, rfl, by decide +kernel, rfl, by decide +kernel, by decide +kernel⟩
abbrev s_rest_of_goodcounts : Stmt := topS 51
theorem sc_rest_of_goodcounts : FnScope ["chance"] ["chance"] (defScope s_rest_of_goodcounts) := ⟨rfl, rfl, rfl, by decide +kernel, rfl, by decide +kernel, by decide +kernel⟩
abbrev s_counts_in : Stmt := topS 53
theorem sc_counts_in : FnScope ["parts", "found", "chance", "good", "bad", "one", "other"] ["parts"] (defScope s_counts_in) := ⟨rfl, rfl, rfl, by decide +kernel, rfl, by decide +kernel, by decide +kernel⟩
abbrev s_total_of : Stmt := topS 54
theorem sc_total_of : FnScope ["chances", "found", "chance"] ["chances"] (defScope s_total_of) := ⟨rfl, rfl, rfl, by decide +kernel, rfl, by decide +kernel, by decide +kernel⟩
abbrev s_count_chances : Stmt := topS 55
theorem sc_count_chances : FnScope ["parts"] ["parts"] (defScope s_count_chances) := ⟨rfl, rfl, rfl, by decide +kernel, rfl, by decide +kernel, by decide +kernel⟩
abbrev s_at_least : Stmt := topS 56
theorem sc_at_least : FnScope ["parts", "k"] ["parts", "k"] (defScope s_at_least) := ⟨rfl, rfl, rfl, by decide +kernel, rfl, by decide +kernel, by decide +kernel⟩
abbrev s_mean_good : Stmt := topS 57
theorem sc_mean_good : FnScope ["parts"] ["parts"] (defScope s_mean_good) := ⟨rfl, rfl, rfl, by decide +kernel, rfl, by decide +kernel, by decide +kernel⟩
abbrev s_cut : Stmt := topS 59
theorem sc_cut : FnScope ["parts", "long"] ["parts"] (defScope s_cut) := ⟨rfl, rfl, rfl, by decide +kernel, rfl, by decide +kernel, by decide +kernel⟩
abbrev s_add : Stmt := topS 60
theorem sc_add : FnScope ["one", "other", "long", "first", "second", "part", "further"] ["one", "other"] (defScope s_add) := ⟨rfl, rfl, rfl, by decide +kernel, rfl, by decide +kernel, by decide +kernel⟩
abbrev s_multiply : Stmt := topS 61
theorem sc_multiply : FnScope ["one", "other", "found", "at", "part", "to", "further"] ["one", "other"] (defScope s_multiply) := ⟨rfl, rfl, rfl, by decide +kernel, rfl, by decide +kernel, by decide +kernel⟩
abbrev s_need_numbers : Stmt := topS 64
theorem sc_need_numbers : FnScope ["n", "k"] ["n", "k"] (defScope s_need_numbers) := ⟨rfl, rfl, rfl, by decide +kernel, rfl, by decide +kernel, by decide +kernel⟩
abbrev s_justs_in : Stmt := topS 65
theorem sc_justs_in : FnScope ["n", "found", "turn", "good", "bad", "one", "other"] ["n"] (defScope s_justs_in) := ⟨rfl, rfl, rfl, by decide +kernel, rfl, by decide +kernel, by decide +kernel⟩
abbrev s_at_least_in : Stmt := topS 66
theorem sc_at_least_in : FnScope ["n", "k", "found", "own"] ["n", "k"] (defScope s_at_least_in) := ⟨rfl, rfl, rfl, by decide +kernel, rfl, by decide +kernel, by decide +kernel⟩
abbrev s_value_in : Stmt := topS 67
theorem sc_value_in : FnScope ["parts", "chance", "top", "bottom", "part"] ["parts", "chance"] (defScope s_value_in) := ⟨rfl, rfl, rfl, by decide +kernel, rfl, by decide +kernel, by decide +kernel⟩
abbrev s_at_least_alike : Stmt := topS 68
theorem sc_at_least_alike : FnScope ["chance", "n", "k"] ["chance", "n", "k"] (defScope s_at_least_alike) := ⟨rfl, rfl, rfl, by decide +kernel, rfl, by decide +kernel, by decide +kernel⟩
abbrev s_is_rate : Stmt := topS 72
theorem sc_is_rate : FnScope ["value"] ["value"] (defScope s_is_rate) := ⟨rfl, rfl, rfl, by decide +kernel, rfl, by decide +kernel, by decide +kernel⟩
abbrev s_fits_mendladders : Stmt := topS 73
theorem sc_fits_mendladders : FnScope ["value"] ["value"] (defScope s_fits_mendladders) := ⟨rfl, rfl, rfl, by decide +kernel, rfl, by decide +kernel, by decide +kernel⟩
abbrev s_need_ladder : Stmt := topS 75
theorem sc_need_ladder : FnScope ["ladder"] ["ladder"] (defScope s_need_ladder) := ⟨rfl, rfl, rfl, by decide +kernel, rfl, by decide +kernel, by decide +kernel⟩
abbrev s_flows_in : Stmt := topS 76
theorem sc_flows_in : FnScope ["ladder", "n", "m", "fail", "mend", "k"] ["ladder"] (defScope s_flows_in) := ⟨rfl, rfl, rfl, by decide +kernel, rfl, by decide +kernel, by decide +kernel⟩
abbrev s_shares_in : Stmt := topS 77
theorem sc_shares_in : FnScope ["ladder", "flows", "parts", "whole", "down", "up", "next_down", "next_up", "part"] ["ladder"] (defScope s_shares_in) := ⟨rfl, rfl, rfl, by decide +kernel, rfl, by decide +kernel, by decide +kernel⟩
abbrev s_flows_of : Stmt := topS 78
theorem sc_flows_of : FnScope ["ladder"] ["ladder"] (defScope s_flows_of) := ⟨rfl, rfl, rfl, by decide +kernel, rfl, by decide +kernel, by decide +kernel⟩
abbrev s_ladder_shares : Stmt := topS 79
theorem sc_ladder_shares : FnScope ["ladder"] ["ladder"] (defScope s_ladder_shares) := ⟨rfl, rfl, rfl, by decide +kernel, rfl, by decide +kernel, by decide +kernel⟩
abbrev s_mean_up : Stmt := topS 80
theorem sc_mean_up : FnScope ["ladder", "found", "k", "share"] ["ladder"] (defScope s_mean_up) := ⟨rfl, rfl, rfl, by decide +kernel, rfl, by decide +kernel, by decide +kernel⟩
abbrev s_share_from : Stmt := topS 81
theorem sc_share_from : FnScope ["ladder", "need", "found", "share"] ["ladder", "need"] (defScope s_share_from) := ⟨rfl, rfl, rfl, by decide +kernel, rfl, by decide +kernel, by decide +kernel⟩
abbrev s_steps_down : Stmt := topS 83
theorem sc_steps_down : FnScope ["flows", "found", "above", "down", "up"] ["flows"] (defScope s_steps_down) := ⟨rfl, rfl, rfl, by decide +kernel, rfl, by decide +kernel, by decide +kernel⟩
abbrev s_steps_up : Stmt := topS 84
theorem sc_steps_up : FnScope ["flows", "found", "below", "down", "up"] ["flows"] (defScope s_steps_up) := ⟨rfl, rfl, rfl, by decide +kernel, rfl, by decide +kernel, by decide +kernel⟩
abbrev s_means_in : Stmt := topS 85
theorem sc_means_in : FnScope ["ladder", "goal", "flows", "lower", "higher", "found", "k", "total", "step"] ["ladder", "goal"] (defScope s_means_in) := ⟨rfl, rfl, rfl, by decide +kernel, rfl, by decide +kernel, by decide +kernel⟩
abbrev s_need_state : Stmt := topS 86
theorem sc_need_state : FnScope ["ladder", "state"] ["ladder", "state"] (defScope s_need_state) := ⟨rfl, rfl, rfl, by decide +kernel, rfl, by decide +kernel, by decide +kernel⟩
abbrev s_mean_between : Stmt := topS 87
theorem sc_mean_between : FnScope ["ladder", "begin", "goal"] ["ladder", "begin", "goal"] (defScope s_mean_between) := ⟨rfl, rfl, rfl, by decide +kernel, rfl, by decide +kernel, by decide +kernel⟩
abbrev s__law_cup : Stmt := topS 89
theorem sc__law_cup : FnScope ["script", "cell"] ["script"] (defScope s__law_cup) := ⟨rfl, rfl, rfl, by decide +kernel, rfl, by decide +kernel, by decide +kernel⟩
abbrev s__law_roll : Stmt := topS 90
theorem sc__law_roll : FnScope ["cup", "many", "found"] ["cup", "many"] (defScope s__law_roll) := ⟨rfl, rfl, rfl, by decide +kernel, rfl, by decide +kernel, by decide +kernel⟩
abbrev s__law_low : Stmt := topS 91
theorem sc__law_low : FnScope ["top", "bottom", "one", "other", "turn"] ["top", "bottom"] (defScope s__law_low) := ⟨rfl, rfl, rfl, by decide +kernel, rfl, by decide +kernel, by decide +kernel⟩
abbrev s__law_times : Stmt := topS 92
theorem sc__law_times : FnScope ["one", "other"] ["one", "other"] (defScope s__law_times) := ⟨rfl, rfl, rfl, by decide +kernel, rfl, by decide +kernel, by decide +kernel⟩
abbrev s__law_less : Stmt := topS 93
theorem sc__law_less : FnScope ["one", "other"] ["one", "other"] (defScope s__law_less) := ⟨rfl, rfl, rfl, by decide +kernel, rfl, by decide +kernel, by decide +kernel⟩
abbrev s__law_ladder_right : Stmt := topS 94
theorem sc__law_ladder_right : FnScope ["n", "fail", "mend", "ladder", "part", "parts", "need"] ["n", "fail", "mend"] (defScope s__law_ladder_right) := ⟨rfl, rfl, rfl, by decide +kernel, rfl, by decide +kernel, by decide +kernel⟩
abbrev s__law_few_right : Stmt := topS 95
theorem sc__law_few_right : FnScope ["n", "m", "fail", "mend", "few", "all_own", "up"] ["n", "m", "fail", "mend"] (defScope s__law_few_right) := ⟨rfl, rfl, rfl, by decide +kernel, rfl, by decide +kernel, by decide +kernel⟩
abbrev s__law_spares_right : Stmt := topS 96
theorem sc__law_spares_right : FnScope ["s", "fail", "steps", "spares", "good", "parts", "need", "counts", "told", "k", "due"] ["s", "fail", "steps"] (defScope s__law_spares_right) := ⟨rfl, rfl, rfl, by decide +kernel, rfl, by decide +kernel, by decide +kernel⟩
abbrev s__law_needed_right : Stmt := topS 97
theorem sc__law_needed_right : FnScope ["fail", "steps", "chance", "parts", "able", "s"] ["fail", "steps", "chance"] (defScope s__law_needed_right) := ⟨rfl, rfl, rfl, by decide +kernel, rfl, by decide +kernel, by decide +kernel⟩
abbrev s_law : Stmt := topS 98
theorem sc_law : FnScope ["script", "cup", "turn", "n", "fail", "mend", "steps", "told", "s"] ["script"] (defScope s_law) := ⟨rfl, rfl, rfl, by decide +kernel, rfl, by decide +kernel, by decide +kernel⟩
structure Top (F : Fx) (K : PySem.W.Frag) (mg : Str → Option Value) : Prop where
  hF : F.K = K
  hT : F.T = []
  f_is_whole : FnC K mg "is_whole" "is_whole" s_is_whole
  f_need_whole : FnC K mg "need_whole" "need_whole" s_need_whole
  f_is_tuple_of : FnC K mg "is_tuple_of" "is_tuple_of" s_is_tuple_of
  f_is_portion : FnC K mg "is_portion" "is_portion" s_is_portion
  f_lowest : FnC K mg "lowest" "lowest" s_lowest
  f_plus : FnC K mg "plus" "plus" s_plus
  f_times : FnC K mg "times" "times" s_times
  f_lead : FnC K mg "lead" "lead" s_lead
  f_is_small : FnC K mg "is_small" "is_small" s_is_small
  f_need_small : FnC K mg "need_small" "need_small" s_need_small
  f_rest_of_mendedparts : FnC K mg "rest_of_mendedparts" "rest_of" s_rest_of_mendedparts
  f_quotient : FnC K mg "quotient" "quotient" s_quotient
  f_fits_mendedparts : FnC K mg "fits_mendedparts" "fits" s_fits_mendedparts
  f_need_part : FnC K mg "need_part" "need_part" s_need_part
  f_long_in : FnC K mg "long_in" "long_in" s_long_in
  f_long_share : FnC K mg "long_share" "long_share" s_long_share
  f_are_rates : FnC K mg "are_rates" "are_rates" s_are_rates
  f_fits_waitingspares : FnC K mg "fits_waitingspares" "fits" s_fits_waitingspares
  f_need_spares : FnC K mg "need_spares" "need_spares" s_need_spares
  f_power : FnC K mg "power" "power" s_power
  f_good_of : FnC K mg "good_of" "good_of" s_good_of
  f_next_chances : FnC K mg "next_chances" "next_chances" s_next_chances
  f_chances_in : FnC K mg "chances_in" "chances_in" s_chances_in
  f_last_in : FnC K mg "last_in" "last_in" s_last_in
  f_last_chance : FnC K mg "last_chance" "last_chance" s_last_chance
  f_good_chances : FnC K mg "good_chances" "good_chances" s_good_chances
  f_spares_needed : FnC K mg "spares_needed" "spares_needed" s_spares_needed
  f_is_chance : FnC K mg "is_chance" "is_chance" s_is_chance
  f_need_parts : FnC K mg "need_parts" "need_parts" s_need_parts
  f_rest_of_goodcounts : FnC K mg "rest_of_goodcounts" "rest_of" s_rest_of_goodcounts
  f_counts_in : FnC K mg "counts_in" "counts_in" s_counts_in
  f_total_of : FnC K mg "total_of" "total_of" s_total_of
  f_count_chances : FnC K mg "count_chances" "count_chances" s_count_chances
  f_at_least : FnC K mg "at_least" "at_least" s_at_least
  f_mean_good : FnC K mg "mean_good" "mean_good" s_mean_good
  f_cut : FnC K mg "cut" "cut" s_cut
  f_add : FnC K mg "add" "add" s_add
  f_multiply : FnC K mg "multiply" "multiply" s_multiply
  f_need_numbers : FnC K mg "need_numbers" "need_numbers" s_need_numbers
  f_justs_in : FnC K mg "justs_in" "justs_in" s_justs_in
  f_at_least_in : FnC K mg "at_least_in" "at_least_in" s_at_least_in
  f_value_in : FnC K mg "value_in" "value_in" s_value_in
  f_at_least_alike : FnC K mg "at_least_alike" "at_least_alike" s_at_least_alike
  f_is_rate : FnC K mg "is_rate" "is_rate" s_is_rate
  f_fits_mendladders : FnC K mg "fits_mendladders" "fits" s_fits_mendladders
  f_need_ladder : FnC K mg "need_ladder" "need_ladder" s_need_ladder
  f_flows_in : FnC K mg "flows_in" "flows_in" s_flows_in
  f_shares_in : FnC K mg "shares_in" "shares_in" s_shares_in
  f_flows_of : FnC K mg "flows_of" "flows_of" s_flows_of
  f_ladder_shares : FnC K mg "ladder_shares" "ladder_shares" s_ladder_shares
  f_mean_up : FnC K mg "mean_up" "mean_up" s_mean_up
  f_share_from : FnC K mg "share_from" "share_from" s_share_from
  f_steps_down : FnC K mg "steps_down" "steps_down" s_steps_down
  f_steps_up : FnC K mg "steps_up" "steps_up" s_steps_up
  f_means_in : FnC K mg "means_in" "means_in" s_means_in
  f_need_state : FnC K mg "need_state" "need_state" s_need_state
  f_mean_between : FnC K mg "mean_between" "mean_between" s_mean_between
  f__law_cup : FnC K mg "_law_cup" "_law_cup" s__law_cup
  f__law_roll : FnC K mg "_law_roll" "_law_roll" s__law_roll
  f__law_low : FnC K mg "_law_low" "_law_low" s__law_low
  f__law_times : FnC K mg "_law_times" "_law_times" s__law_times
  f__law_less : FnC K mg "_law_less" "_law_less" s__law_less
  f__law_ladder_right : FnC K mg "_law_ladder_right" "_law_ladder_right" s__law_ladder_right
  f__law_few_right : FnC K mg "_law_few_right" "_law_few_right" s__law_few_right
  f__law_spares_right : FnC K mg "_law_spares_right" "_law_spares_right" s__law_spares_right
  f__law_needed_right : FnC K mg "_law_needed_right" "_law_needed_right" s__law_needed_right
  z_isinstance : mg "isinstance" = none
  z_int : mg "int" = none
  z_bool : mg "bool" = none
  z_tuple : mg "tuple" = none
  z_len : mg "len" = none
  z_all : mg "all" = none
  z_any : mg "any" = none
  z_range : mg "range" = none
  z_enumerate : mg "enumerate" = none
  z_zip : mg "zip" = none
  z_max : mg "max" = none
  z_list : mg "list" = none
  z_min : mg "min" = none
  z_abs : mg "abs" = none
  m_gcd : mg "gcd" = some (.builtin "math.gcd")
  m_comb : mg "comb" = some (.builtin "math.comb")
  c_GREAT : GlC F mg "GREAT" (.int 1000000000000000000000000000000000000000000000000000000000000)
  c_SMALL : GlC F mg "SMALL" (.int 100)
  c_MOST_waitingspares : GlC F mg "MOST_waitingspares" (.int 6)
  c_STEPS : GlC F mg "STEPS" (.int 30)
  c_BOTTOM : GlC F mg "BOTTOM" (.int 1000)
  c_PARTS_goodcounts : GlC F mg "PARTS_goodcounts" (.int 12)
  c_MOST_likeparts : GlC F mg "MOST_likeparts" (.int 30)
  c_RATE : GlC F mg "RATE" (.int 100)
  c_PARTS_mendladders : GlC F mg "PARTS_mendladders" (.int 8)
  e_InvalidNumber : ErrC K mg "InvalidNumber" (F.ca 0)
  e_InvalidPortion : ErrC K mg "InvalidPortion" (F.ca 1)
  e_InvalidRates : ErrC K mg "InvalidRates" (F.ca 2)
  e_InvalidSpares : ErrC K mg "InvalidSpares" (F.ca 3)
  e_InvalidChances : ErrC K mg "InvalidChances" (F.ca 4)
theorem dk_is_whole {F : Fx} {K : PySem.W.Frag} {mg : Str → Option Value} {P : Program} {w : World} {base : Heap} (T : Top F K mg) : DOk F P w K mg base "is_whole" 1 3 (SpP F 3 g_is_whole) := by
  obtain ⟨f, fd, Fu, gm⟩ := T.f_is_whole
  refine ⟨⟨f, fd, _, fn_pure T.hF (body := b_is_whole) Fu sc_is_whole rfl (by decide) (fun cdv A outer s H E c => ?_) (fun ds _ => rfl), gm, Fu.kp, Fu.binds fun _ _ _ _ _ _ us hl => match us, hl with | [_, _, _], _ => rfl⟩, by decide⟩
  exact (pss_one' (ps_ret' (pv_and (pv_isi c (T := "int") T.z_isinstance T.z_int (by decide +kernel) (pv_var 0)) (pv_and (pv_not (pv_isi c (T := "bool") T.z_isinstance T.z_bool (by decide +kernel) (pv_var 0))) (pv_one (pv_ch2 cm_le cm_le (pv_var 1) (pv_var 0) (pv_var 2)))))))
theorem dk_need_whole {F : Fx} {K : PySem.W.Frag} {mg : Str → Option Value} {P : Program} {w : World} {base : Heap} (T : Top F K mg) : DOk F P w K mg base "need_whole" 2 3 (SpP F 3 g_need_whole) := by
  obtain ⟨f, fd, Fu, gm⟩ := T.f_need_whole
  refine ⟨⟨f, fd, _, fn_pure T.hF (body := b_need_whole) Fu sc_need_whole rfl (by decide) (fun cdv A outer s H E c => ?_) (fun ds _ => rfl), gm, Fu.kp, Fu.binds fun _ _ _ _ _ _ us hl => match us, hl with | [_, _, _], _ => rfl⟩, by decide⟩
  exact (pss_one' (ps_if' (pb_not (pb_val (pv_call c (dk_is_whole T) (by decide) (pa_cons' (pv_var 0) (pa_cons' (pv_var 1) (pa_cons' (pv_var 2) pa_nil')))))) (pss_one' (ps_raise' c (ci := 0) T.e_InvalidNumber)) pss_nil'))
theorem dk_is_tuple_of {F : Fx} {K : PySem.W.Frag} {mg : Str → Option Value} {P : Program} {w : World} {base : Heap} (T : Top F K mg) : DOk F P w K mg base "is_tuple_of" 1 3 (SpP F 3 g_is_tuple_of) := by
  obtain ⟨f, fd, Fu, gm⟩ := T.f_is_tuple_of
  refine ⟨⟨f, fd, _, fn_pure T.hF (body := b_is_tuple_of) Fu sc_is_tuple_of rfl (by decide) (fun cdv A outer s H E c => ?_) (fun ds _ => rfl), gm, Fu.kp, Fu.binds fun _ _ _ _ _ _ us hl => match us, hl with | [_, _, _], _ => rfl⟩, by decide⟩
  exact (pss_one' (ps_ret' (pv_and (pv_isi c (T := "tuple") T.z_isinstance T.z_tuple (by decide +kernel) (pv_var 0)) (pv_one (pv_ch2 cm_le cm_le (pv_var 1) (pv_len c T.z_len (pa_cons' (pv_var 0) pa_nil')) (pv_var 2))))))
theorem dk_is_portion {F : Fx} {K : PySem.W.Frag} {mg : Str → Option Value} {P : Program} {w : World} {base : Heap} (T : Top F K mg) : DOk F P w K mg base "is_portion" 2 1 (SpP F 1 g_is_portion) := by
  obtain ⟨f, fd, Fu, gm⟩ := T.f_is_portion
  refine ⟨⟨f, fd, _, fn_pure T.hF (body := b_is_portion) Fu sc_is_portion rfl (by decide) (fun cdv A outer s H E c => ?_) (fun ds _ => rfl), gm, Fu.kp, Fu.binds fun _ _ _ _ _ _ us hl => match us, hl with | [_], _ => rfl⟩, by decide⟩
  exact (pss_cons' (ps_if' (PBW.pb (pb_or (pb_not (pb_val (pv_call c (dk_is_tuple_of T) (by decide) (pa_cons' (pv_var 0) (pa_cons' pv_int (pa_cons' pv_int pa_nil')))))) (pb_or (pb_not (pb_val (pv_call c (dk_is_whole T) (by decide) (pa_cons' (pv_ix c (pv_var 0) pv_int) (pa_cons' (pv_neg (pv_gl T.c_GREAT)) (pa_cons' (pv_gl T.c_GREAT) pa_nil')))))) (pb_or1 (pb_not (pb_val (pv_call c (dk_is_whole T) (by decide) (pa_cons' (pv_ix c (pv_var 0) pv_int) (pa_cons' pv_int (pa_cons' (pv_gl T.c_GREAT) pa_nil')))))))))) (pss_one' (ps_ret' pv_bl)) pss_nil')
    (pss_one' (ps_ret' (pv_cmp (cm_eq c) (pv_gcd T.m_gcd (pa_cons' (pv_ix c (pv_var 0) pv_int) (pa_cons' (pv_ix c (pv_var 0) pv_int) pa_nil'))) pv_int))))
theorem dk_lowest {F : Fx} {K : PySem.W.Frag} {mg : Str → Option Value} {P : Program} {w : World} {base : Heap} (T : Top F K mg) : DOk F P w K mg base "lowest" 1 2 (SpP F 2 g_lowest) := by
  obtain ⟨f, fd, Fu, gm⟩ := T.f_lowest
  refine ⟨⟨f, fd, _, fn_pure T.hF (body := b_lowest) Fu sc_lowest rfl (by decide) (fun cdv A outer s H E c => ?_) (fun ds _ => rfl), gm, Fu.kp, Fu.binds fun _ _ _ _ _ _ us hl => match us, hl with | [_, _], _ => rfl⟩, by decide⟩
  exact (pss_cons' (ps_set' c (i := 2) (pv_gcd T.m_gcd (pa_cons' (pv_var 0) (pa_cons' (pv_var 1) pa_nil'))) (.inl rfl))
    (pss_cons' (ps_set' c (i := 2) (pv_ifExp (pb_cmp cm_gt (pv_var 1) pv_int) (pv_var 2) (pv_neg (pv_var 2))) (.inl rfl))
    (pss_one' (ps_ret' (pv_tup (pa_cons' (pv_div (pv_var 0) (pv_var 2)) (pa_cons' (pv_div (pv_var 1) (pv_var 2)) pa_nil')))))))
theorem dk_plus {F : Fx} {K : PySem.W.Frag} {mg : Str → Option Value} {P : Program} {w : World} {base : Heap} (T : Top F K mg) : DOk F P w K mg base "plus" 2 2 (SpP F 2 g_plus) := by
  obtain ⟨f, fd, Fu, gm⟩ := T.f_plus
  refine ⟨⟨f, fd, _, fn_pure T.hF (body := b_plus) Fu sc_plus rfl (by decide) (fun cdv A outer s H E c => ?_) (fun ds _ => rfl), gm, Fu.kp, Fu.binds fun _ _ _ _ _ _ us hl => match us, hl with | [_, _], _ => rfl⟩, by decide⟩
  exact (pss_one' (ps_ret' (pv_call c (dk_lowest T) (by decide) (pa_cons' (pv_add c (pv_mul c (pv_ix c (pv_var 0) pv_int) (pv_ix c (pv_var 1) pv_int)) (pv_mul c (pv_ix c (pv_var 1) pv_int) (pv_ix c (pv_var 0) pv_int))) (pa_cons' (pv_mul c (pv_ix c (pv_var 0) pv_int) (pv_ix c (pv_var 1) pv_int)) pa_nil')))))
theorem dk_times {F : Fx} {K : PySem.W.Frag} {mg : Str → Option Value} {P : Program} {w : World} {base : Heap} (T : Top F K mg) : DOk F P w K mg base "times" 2 2 (SpP F 2 g_times) := by
  obtain ⟨f, fd, Fu, gm⟩ := T.f_times
  refine ⟨⟨f, fd, _, fn_pure T.hF (body := b_times) Fu sc_times rfl (by decide) (fun cdv A outer s H E c => ?_) (fun ds _ => rfl), gm, Fu.kp, Fu.binds fun _ _ _ _ _ _ us hl => match us, hl with | [_, _], _ => rfl⟩, by decide⟩
  exact (pss_one' (ps_ret' (pv_call c (dk_lowest T) (by decide) (pa_cons' (pv_mul c (pv_ix c (pv_var 0) pv_int) (pv_ix c (pv_var 1) pv_int)) (pa_cons' (pv_mul c (pv_ix c (pv_var 0) pv_int) (pv_ix c (pv_var 1) pv_int)) pa_nil')))))
theorem dk_lead {F : Fx} {K : PySem.W.Frag} {mg : Str → Option Value} {P : Program} {w : World} {base : Heap} (T : Top F K mg) : DOk F P w K mg base "lead" 1 2 (SpP F 2 g_lead) := by
  obtain ⟨f, fd, Fu, gm⟩ := T.f_lead
  refine ⟨⟨f, fd, _, fn_pure T.hF (body := b_lead) Fu sc_lead rfl (by decide) (fun cdv A outer s H E c => ?_) (fun ds _ => rfl), gm, Fu.kp, Fu.binds fun _ _ _ _ _ _ us hl => match us, hl with | [_, _], _ => rfl⟩, by decide⟩
  exact (pss_one' (ps_ret' (pv_sub (pv_mul c (pv_ix c (pv_var 0) pv_int) (pv_ix c (pv_var 1) pv_int)) (pv_mul c (pv_ix c (pv_var 1) pv_int) (pv_ix c (pv_var 0) pv_int)))))
theorem dk_is_small {F : Fx} {K : PySem.W.Frag} {mg : Str → Option Value} {P : Program} {w : World} {base : Heap} (T : Top F K mg) : DOk F P w K mg base "is_small" 3 1 (SpP F 1 g_is_small) := by
  obtain ⟨f, fd, Fu, gm⟩ := T.f_is_small
  refine ⟨⟨f, fd, _, fn_pure T.hF (body := b_is_small) Fu sc_is_small rfl (by decide) (fun cdv A outer s H E c => ?_) (fun ds _ => rfl), gm, Fu.kp, Fu.binds fun _ _ _ _ _ _ us hl => match us, hl with | [_], _ => rfl⟩, by decide⟩
  exact (pss_one' (ps_ret' (pv_and (pv_call c (dk_is_portion T) (by decide) (pa_cons' (pv_var 0) pa_nil')) (pv_one (pv_ch3 cm_le cm_le cm_le pv_int (pv_ix c (pv_var 0) pv_int) (pv_ix c (pv_var 0) pv_int) (pv_gl T.c_SMALL))))))
theorem dk_need_small {F : Fx} {K : PySem.W.Frag} {mg : Str → Option Value} {P : Program} {w : World} {base : Heap} (T : Top F K mg) : DOk F P w K mg base "need_small" 4 1 (SpP F 1 g_need_small) := by
  obtain ⟨f, fd, Fu, gm⟩ := T.f_need_small
  refine ⟨⟨f, fd, _, fn_pure T.hF (body := b_need_small) Fu sc_need_small rfl (by decide) (fun cdv A outer s H E c => ?_) (fun ds _ => rfl), gm, Fu.kp, Fu.binds fun _ _ _ _ _ _ us hl => match us, hl with | [_], _ => rfl⟩, by decide⟩
  exact (pss_one' (ps_if' (pb_not (pb_val (pv_call c (dk_is_small T) (by decide) (pa_cons' (pv_var 0) pa_nil')))) (pss_one' (ps_raise' c (ci := 1) T.e_InvalidPortion)) pss_nil'))
theorem dk_rest_of_mendedparts {F : Fx} {K : PySem.W.Frag} {mg : Str → Option Value} {P : Program} {w : World} {base : Heap} (T : Top F K mg) : DOk F P w K mg base "rest_of_mendedparts" 2 1 (SpP F 1 g_rest_of_mendedparts) := by
  obtain ⟨f, fd, Fu, gm⟩ := T.f_rest_of_mendedparts
  refine ⟨⟨f, fd, _, fn_pure T.hF (body := b_rest_of_mendedparts) Fu sc_rest_of_mendedparts rfl (by decide) (fun cdv A outer s H E c => ?_) (fun ds _ => rfl), gm, Fu.kp, Fu.binds fun _ _ _ _ _ _ us hl => match us, hl with | [_], _ => rfl⟩, by decide⟩
  exact (pss_one' (ps_ret' (pv_call c (dk_lowest T) (by decide) (pa_cons' (pv_sub (pv_ix c (pv_var 0) pv_int) (pv_ix c (pv_var 0) pv_int)) (pa_cons' (pv_ix c (pv_var 0) pv_int) pa_nil')))))
theorem dk_quotient {F : Fx} {K : PySem.W.Frag} {mg : Str → Option Value} {P : Program} {w : World} {base : Heap} (T : Top F K mg) : DOk F P w K mg base "quotient" 2 2 (SpP F 2 g_quotient) := by
  obtain ⟨f, fd, Fu, gm⟩ := T.f_quotient
  refine ⟨⟨f, fd, _, fn_pure T.hF (body := b_quotient) Fu sc_quotient rfl (by decide) (fun cdv A outer s H E c => ?_) (fun ds _ => rfl), gm, Fu.kp, Fu.binds fun _ _ _ _ _ _ us hl => match us, hl with | [_, _], _ => rfl⟩, by decide⟩
  exact (pss_one' (ps_ret' (pv_call c (dk_lowest T) (by decide) (pa_cons' (pv_mul c (pv_ix c (pv_var 0) pv_int) (pv_ix c (pv_var 1) pv_int)) (pa_cons' (pv_mul c (pv_ix c (pv_var 0) pv_int) (pv_ix c (pv_var 1) pv_int)) pa_nil')))))
theorem dk_fits_mendedparts {F : Fx} {K : PySem.W.Frag} {mg : Str → Option Value} {P : Program} {w : World} {base : Heap} (T : Top F K mg) : DOk F P w K mg base "fits_mendedparts" 4 1 (SpP F 1 g_fits_mendedparts) := by
  obtain ⟨f, fd, Fu, gm⟩ := T.f_fits_mendedparts
  refine ⟨⟨f, fd, _, fn_pure T.hF (body := b_fits_mendedparts) Fu sc_fits_mendedparts rfl (by decide) (fun cdv A outer s H E c => ?_) (fun ds _ => rfl), gm, Fu.kp, Fu.binds fun _ _ _ _ _ _ us hl => match us, hl with | [_], _ => rfl⟩, by decide⟩
  exact (pss_one' (ps_ret' (pv_and (pv_call c (dk_is_tuple_of T) (by decide) (pa_cons' (pv_var 0) (pa_cons' pv_int (pa_cons' pv_int pa_nil')))) (pv_and (pv_all c T.z_all (pa_cons' (PN.pv (pn_lc (own := [("part", 1)]) c (pit_seq c (pv_var 0)) (by rfl) (fun _ _ _ _ _ c' => (ptg_name (i := 1) c'.nd (.inl rfl))) (fun _ _ _ _ _ c' => pts_nil') (fun _ _ _ _ _ c' => (pv_call c' (dk_is_small T) (by decide) (pa_cons' (pv_var 1) pa_nil'))) (.inl rfl) (by decide))) pa_nil')) (pv_one (pv_any c T.z_any (pa_cons' (PN.pv (pn_lc (own := [("part", 1)]) c (pit_seq c (pv_var 0)) (by rfl) (fun _ _ _ _ _ c' => (ptg_name (i := 1) c'.nd (.inl rfl))) (fun _ _ _ _ _ c' => pts_nil') (fun _ _ _ _ _ c' => (pv_cmp cm_gt (pv_ix c' (pv_var 1) pv_int) pv_int)) (.inl rfl) (by decide))) pa_nil')))))))
theorem dk_need_part {F : Fx} {K : PySem.W.Frag} {mg : Str → Option Value} {P : Program} {w : World} {base : Heap} (T : Top F K mg) : DOk F P w K mg base "need_part" 5 1 (SpP F 1 g_need_part) := by
  obtain ⟨f, fd, Fu, gm⟩ := T.f_need_part
  refine ⟨⟨f, fd, _, fn_pure T.hF (body := b_need_part) Fu sc_need_part rfl (by decide) (fun cdv A outer s H E c => ?_) (fun ds _ => rfl), gm, Fu.kp, Fu.binds fun _ _ _ _ _ _ us hl => match us, hl with | [_], _ => rfl⟩, by decide⟩
  exact (pss_one' (ps_if' (pb_not (pb_val (pv_call c (dk_fits_mendedparts T) (by decide) (pa_cons' (pv_var 0) pa_nil')))) (pss_one' (ps_raise' c (ci := 2) T.e_InvalidRates)) pss_nil'))
theorem dk_long_in {F : Fx} {K : PySem.W.Frag} {mg : Str → Option Value} {P : Program} {w : World} {base : Heap} (T : Top F K mg) : DOk F P w K mg base "long_in" 3 1 (SpP F 1 g_long_in) := by
  obtain ⟨f, fd, Fu, gm⟩ := T.f_long_in
  refine ⟨⟨f, fd, _, fn_pure T.hF (body := b_long_in) Fu sc_long_in rfl (by decide) (fun cdv A outer s H E c => ?_) (fun ds _ => rfl), gm, Fu.kp, Fu.binds fun _ _ _ _ _ _ us hl => match us, hl with | [_], _ => rfl⟩, by decide⟩
  exact (pss_one' (ps_ret' (pv_call c (dk_quotient T) (by decide) (pa_cons' (pv_ix c (pv_var 0) pv_int) (pa_cons' (pv_call c (dk_plus T) (by decide) (pa_cons' (pv_ix c (pv_var 0) pv_int) (pa_cons' (pv_ix c (pv_var 0) pv_int) pa_nil'))) pa_nil')))))
theorem dk_long_share {F : Fx} {K : PySem.W.Frag} {mg : Str → Option Value} {P : Program} {w : World} {base : Heap} (T : Top F K mg) : DOk F P w K mg base "long_share" 6 1 (SpP F 1 g_long_share) := by
  obtain ⟨f, fd, Fu, gm⟩ := T.f_long_share
  refine ⟨⟨f, fd, _, fn_pure T.hF (body := b_long_share) Fu sc_long_share rfl (by decide) (fun cdv A outer s H E c => ?_) (fun ds _ => rfl), gm, Fu.kp, Fu.binds fun _ _ _ _ _ _ us hl => match us, hl with | [_], _ => rfl⟩, by decide⟩
  exact (pss_cons' (ps_expr' (pv_call c (dk_need_part T) (by decide) (pa_cons' (pv_var 0) pa_nil')))
    (pss_one' (ps_ret' (pv_call c (dk_long_in T) (by decide) (pa_cons' (pv_var 0) pa_nil')))))
theorem dk_are_rates {F : Fx} {K : PySem.W.Frag} {mg : Str → Option Value} {P : Program} {w : World} {base : Heap} (T : Top F K mg) : DOk F P w K mg base "are_rates" 4 2 (SpP F 2 g_are_rates) := by
  obtain ⟨f, fd, Fu, gm⟩ := T.f_are_rates
  refine ⟨⟨f, fd, _, fn_pure T.hF (body := b_are_rates) Fu sc_are_rates rfl (by decide) (fun cdv A outer s H E c => ?_) (fun ds _ => rfl), gm, Fu.kp, Fu.binds fun _ _ _ _ _ _ us hl => match us, hl with | [_, _], _ => rfl⟩, by decide⟩
  exact (pss_one' (ps_ret' (pv_and (pv_call c (dk_is_small T) (by decide) (pa_cons' (pv_var 0) pa_nil')) (pv_and (pv_cmp cm_gt (pv_ix c (pv_var 0) pv_int) pv_int) (pv_one (pv_call c (dk_is_small T) (by decide) (pa_cons' (pv_var 1) pa_nil')))))))
theorem dk_fits_waitingspares {F : Fx} {K : PySem.W.Frag} {mg : Str → Option Value} {P : Program} {w : World} {base : Heap} (T : Top F K mg) : DOk F P w K mg base "fits_waitingspares" 5 1 (SpP F 1 g_fits_waitingspares) := by
  obtain ⟨f, fd, Fu, gm⟩ := T.f_fits_waitingspares
  refine ⟨⟨f, fd, _, fn_pure T.hF (body := b_fits_waitingspares) Fu sc_fits_waitingspares rfl (by decide) (fun cdv A outer s H E c => ?_) (fun ds _ => rfl), gm, Fu.kp, Fu.binds fun _ _ _ _ _ _ us hl => match us, hl with | [_], _ => rfl⟩, by decide⟩
  exact (pss_one' (ps_ret' (pv_and (pv_call c (dk_is_tuple_of T) (by decide) (pa_cons' (pv_var 0) (pa_cons' pv_int (pa_cons' pv_int pa_nil')))) (pv_and (pv_call c (dk_is_whole T) (by decide) (pa_cons' (pv_ix c (pv_var 0) pv_int) (pa_cons' pv_int (pa_cons' (pv_gl T.c_MOST_waitingspares) pa_nil')))) (pv_one (pv_call c (dk_are_rates T) (by decide) (pa_cons' (pv_ix c (pv_var 0) pv_int) (pa_cons' (pv_ix c (pv_var 0) pv_int) pa_nil'))))))))
theorem dk_need_spares {F : Fx} {K : PySem.W.Frag} {mg : Str → Option Value} {P : Program} {w : World} {base : Heap} (T : Top F K mg) : DOk F P w K mg base "need_spares" 6 1 (SpP F 1 g_need_spares) := by
  obtain ⟨f, fd, Fu, gm⟩ := T.f_need_spares
  refine ⟨⟨f, fd, _, fn_pure T.hF (body := b_need_spares) Fu sc_need_spares rfl (by decide) (fun cdv A outer s H E c => ?_) (fun ds _ => rfl), gm, Fu.kp, Fu.binds fun _ _ _ _ _ _ us hl => match us, hl with | [_], _ => rfl⟩, by decide⟩
  exact (pss_one' (ps_if' (pb_not (pb_val (pv_call c (dk_fits_waitingspares T) (by decide) (pa_cons' (pv_var 0) pa_nil')))) (pss_one' (ps_raise' c (ci := 3) T.e_InvalidSpares)) pss_nil'))
theorem dk_power {F : Fx} {K : PySem.W.Frag} {mg : Str → Option Value} {P : Program} {w : World} {base : Heap} (T : Top F K mg) : DOk F P w K mg base "power" 3 2 (SpP F 2 g_power) := by
  obtain ⟨f, fd, Fu, gm⟩ := T.f_power
  refine ⟨⟨f, fd, _, fn_pure T.hF (body := b_power) Fu sc_power rfl (by decide) (fun cdv A outer s H E c => ?_) (fun ds _ => rfl), gm, Fu.kp, Fu.binds fun _ _ _ _ _ _ us hl => match us, hl with | [_, _], _ => rfl⟩, by decide⟩
  exact (pss_cons' (ps_set' c (i := 2) (pv_tup (pa_cons' pv_int (pa_cons' pv_int pa_nil'))) (.inl rfl))
    (pss_cons' (ps_for' c (pit_range1 T.z_range (pa_cons' (pv_var 1) pa_nil')) (ptg_name (i := 3) c.nd (.inl rfl)) (pss_one' (ps_set' c (i := 2) (pv_call c (dk_times T) (by decide) (pa_cons' (pv_var 2) (pa_cons' (pv_var 0) pa_nil'))) (.inl rfl))))
    (pss_one' (ps_ret' (pv_var 2)))))
theorem dk_good_of {F : Fx} {K : PySem.W.Frag} {mg : Str → Option Value} {P : Program} {w : World} {base : Heap} (T : Top F K mg) : DOk F P w K mg base "good_of" 4 2 (SpP F 2 g_good_of) := by
  obtain ⟨f, fd, Fu, gm⟩ := T.f_good_of
  refine ⟨⟨f, fd, _, fn_pure T.hF (body := b_good_of) Fu sc_good_of rfl (by decide) (fun cdv A outer s H E c => ?_) (fun ds _ => rfl), gm, Fu.kp, Fu.binds fun _ _ _ _ _ _ us hl => match us, hl with | [_, _], _ => rfl⟩, by decide⟩
  exact (pss_cons' (ps_set' c (i := 2) (pv_call c (dk_rest_of_mendedparts T) (by decide) (pa_cons' (pv_var 1) pa_nil')) (.inl rfl))
    (pss_one' (ps_ret' (PN.pv (pn_lc (own := [("k", 3)]) c (pit_range1 T.z_range (pa_cons' (pv_add c (pv_var 0) pv_int) pa_nil')) (by rfl) (fun _ _ _ _ _ c' => (ptg_name (i := 3) c'.nd (.inl rfl))) (fun _ _ _ _ _ c' => pts_nil') (fun _ _ _ _ _ c' => (pv_call c' (dk_times T) (by decide) (pa_cons' (pv_tup (pa_cons' (pv_comb T.m_comb (pa_cons' (pv_var 0) (pa_cons' (pv_var 3) pa_nil'))) (pa_cons' pv_int pa_nil'))) (pa_cons' (pv_call c' (dk_times T) (by decide) (pa_cons' (pv_call c' (dk_power T) (by decide) (pa_cons' (pv_var 2) (pa_cons' (pv_var 3) pa_nil'))) (pa_cons' (pv_call c' (dk_power T) (by decide) (pa_cons' (pv_var 1) (pa_cons' (pv_sub (pv_var 0) (pv_var 3)) pa_nil'))) pa_nil'))) pa_nil')))) (.inl rfl) (by decide))))))
theorem dk_next_chances {F : Fx} {K : PySem.W.Frag} {mg : Str → Option Value} {P : Program} {w : World} {base : Heap} (T : Top F K mg) : DOk F P w K mg base "next_chances" 5 3 (SpP F 3 g_next_chances) := by
  obtain ⟨f, fd, Fu, gm⟩ := T.f_next_chances
  refine ⟨⟨f, fd, _, fn_pure T.hF (body := b_next_chances) Fu sc_next_chances rfl (by decide) (fun cdv A outer s H E c => ?_) (fun ds _ => rfl), gm, Fu.kp, Fu.binds fun _ _ _ _ _ _ us hl => match us, hl with | [_, _, _], _ => rfl⟩, by decide⟩
  exact (pss_cons' (ps_set' c (i := 3) (pv_add c (pv_call c (dk_good_of T) (by decide) (pa_cons' (pv_var 0) (pa_cons' (pv_var 2) pa_nil'))) (PN.pv (pn_lst (pa_cons' (pv_tup (pa_cons' pv_int (pa_cons' pv_int pa_nil'))) pa_nil')))) (.inl rfl))
    (pss_one' (ps_ret' (PN.pv (pn_lc (own := [("k", 4)]) c (pit_range1 T.z_range (pa_cons' (pv_add c (pv_var 0) pv_int) pa_nil')) (by rfl) (fun _ _ _ _ _ c' => (ptg_name (i := 4) c'.nd (.inl rfl))) (fun _ _ _ _ _ c' => pts_nil') (fun _ _ _ _ _ c' => (pv_call c' (dk_plus T) (by decide) (pa_cons' (pv_call c' (dk_times T) (by decide) (pa_cons' (pv_call c' (dk_rest_of_mendedparts T) (by decide) (pa_cons' (pv_var 1) pa_nil')) (pa_cons' (pv_ix c' (pv_var 3) (pv_var 4)) pa_nil'))) (pa_cons' (pv_call c' (dk_times T) (by decide) (pa_cons' (pv_var 1) (pa_cons' (pv_ix c' (pv_var 3) (pv_add c' (pv_var 4) pv_int)) pa_nil'))) pa_nil')))) (.inl rfl) (by decide))))))
theorem dk_chances_in {F : Fx} {K : PySem.W.Frag} {mg : Str → Option Value} {P : Program} {w : World} {base : Heap} (T : Top F K mg) : DOk F P w K mg base "chances_in" 6 2 (SpP F 2 g_chances_in) := by
  obtain ⟨f, fd, Fu, gm⟩ := T.f_chances_in
  refine ⟨⟨f, fd, _, fn_pure T.hF (body := b_chances_in) Fu sc_chances_in rfl (by decide) (fun cdv A outer s H E c => ?_) (fun ds _ => rfl), gm, Fu.kp, Fu.binds fun _ _ _ _ _ _ us hl => match us, hl with | [_, _], _ => rfl⟩, by decide⟩
  exact (pss_cons' (ps_tg' (pv_var 0) (ptg_tup c (ptgs_cons (ptg_name (i := 2) c.nd (.inl rfl)) (ptgs_cons (ptg_name (i := 3) c.nd (.inl rfl)) (ptgs_cons (ptg_name (i := 4) c.nd (.inl rfl)) ptgs_nil)))))
    (pss_cons' (ps_set' c (i := 5) (pv_add c (pv_mul c (PN.pv (pn_lst (pa_cons' (pv_tup (pa_cons' pv_int (pa_cons' pv_int pa_nil'))) pa_nil'))) (pv_var 2)) (PN.pv (pn_lst (pa_cons' (pv_tup (pa_cons' pv_int (pa_cons' pv_int pa_nil'))) pa_nil')))) (.inl rfl))
    (pss_cons' (ps_for' c (pit_range1 T.z_range (pa_cons' (pv_var 1) pa_nil')) (ptg_name (i := 6) c.nd (.inl rfl)) (pss_cons' (ps_own' c (i := 7) (pn_mul c (PN.pv (pn_lst (pa_cons' (pv_tup (pa_cons' pv_int (pa_cons' pv_int pa_nil'))) pa_nil'))) (pv_add c (pv_var 2) pv_int)) (.inl rfl))
    (pss_cons' (ps_for' c (pit_enum c T.z_enumerate (pa_cons' (pv_var 5) pa_nil')) (ptg_tup c (ptgs_cons (ptg_name (i := 8) c.nd (.inl rfl)) (ptgs_cons (ptg_name (i := 9) c.nd (.inl rfl)) ptgs_nil))) (pss_one' (ps_for' c (pit_enum c T.z_enumerate (pa_cons' (pv_call c (dk_next_chances T) (by decide) (pa_cons' (pv_var 8) (pa_cons' (pv_var 3) (pa_cons' (pv_var 4) pa_nil')))) pa_nil')) (ptg_tup c (ptgs_cons (ptg_name (i := 10) c.nd (.inl rfl)) (ptgs_cons (ptg_name (i := 11) c.nd (.inl rfl)) ptgs_nil))) (pss_one' (ps_setIx' (i := 7) (pv_call c (dk_plus T) (by decide) (pa_cons' (pv_ixV c 7 (pv_var 10)) (pa_cons' (pv_call c (dk_times T) (by decide) (pa_cons' (pv_var 9) (pa_cons' (pv_var 11) pa_nil'))) pa_nil'))) (pv_var 10))))))
    (pss_one' (ps_set' c (i := 5) (pv_frz 7 (.inl rfl)) (.inl rfl))))))
    (pss_one' (ps_ret' (pv_var 5))))))
theorem dk_last_in {F : Fx} {K : PySem.W.Frag} {mg : Str → Option Value} {P : Program} {w : World} {base : Heap} (T : Top F K mg) : DOk F P w K mg base "last_in" 7 2 (SpP F 2 g_last_in) := by
  obtain ⟨f, fd, Fu, gm⟩ := T.f_last_in
  refine ⟨⟨f, fd, _, fn_pure T.hF (body := b_last_in) Fu sc_last_in rfl (by decide) (fun cdv A outer s H E c => ?_) (fun ds _ => rfl), gm, Fu.kp, Fu.binds fun _ _ _ _ _ _ us hl => match us, hl with | [_, _], _ => rfl⟩, by decide⟩
  exact (pss_cons' (ps_set' c (i := 2) (pv_tup (pa_cons' pv_int (pa_cons' pv_int pa_nil'))) (.inl rfl))
    (pss_cons' (ps_for' c (pit_seq c (pv_call c (dk_chances_in T) (by decide) (pa_cons' (pv_var 0) (pa_cons' (pv_var 1) pa_nil')))) (ptg_name (i := 3) c.nd (.inl rfl)) (pss_one' (ps_set' c (i := 2) (pv_call c (dk_plus T) (by decide) (pa_cons' (pv_var 2) (pa_cons' (pv_var 3) pa_nil'))) (.inl rfl))))
    (pss_one' (ps_ret' (pv_var 2)))))
theorem dk_last_chance {F : Fx} {K : PySem.W.Frag} {mg : Str → Option Value} {P : Program} {w : World} {base : Heap} (T : Top F K mg) : DOk F P w K mg base "last_chance" 8 2 (SpP F 2 g_last_chance) := by
  obtain ⟨f, fd, Fu, gm⟩ := T.f_last_chance
  refine ⟨⟨f, fd, _, fn_pure T.hF (body := b_last_chance) Fu sc_last_chance rfl (by decide) (fun cdv A outer s H E c => ?_) (fun ds _ => rfl), gm, Fu.kp, Fu.binds fun _ _ _ _ _ _ us hl => match us, hl with | [_, _], _ => rfl⟩, by decide⟩
  exact (pss_cons' (ps_expr' (pv_call c (dk_need_spares T) (by decide) (pa_cons' (pv_var 0) pa_nil')))
    (pss_cons' (ps_expr' (pv_call c (dk_need_whole T) (by decide) (pa_cons' (pv_var 1) (pa_cons' pv_int (pa_cons' (pv_gl T.c_STEPS) pa_nil')))))
    (pss_one' (ps_ret' (pv_call c (dk_last_in T) (by decide) (pa_cons' (pv_var 0) (pa_cons' (pv_var 1) pa_nil')))))))
theorem dk_good_chances {F : Fx} {K : PySem.W.Frag} {mg : Str → Option Value} {P : Program} {w : World} {base : Heap} (T : Top F K mg) : DOk F P w K mg base "good_chances" 7 2 (SpP F 2 g_good_chances) := by
  obtain ⟨f, fd, Fu, gm⟩ := T.f_good_chances
  refine ⟨⟨f, fd, _, fn_pure T.hF (body := b_good_chances) Fu sc_good_chances rfl (by decide) (fun cdv A outer s H E c => ?_) (fun ds _ => rfl), gm, Fu.kp, Fu.binds fun _ _ _ _ _ _ us hl => match us, hl with | [_, _], _ => rfl⟩, by decide⟩
  exact (pss_cons' (ps_expr' (pv_call c (dk_need_spares T) (by decide) (pa_cons' (pv_var 0) pa_nil')))
    (pss_cons' (ps_expr' (pv_call c (dk_need_whole T) (by decide) (pa_cons' (pv_var 1) (pa_cons' pv_int (pa_cons' (pv_gl T.c_STEPS) pa_nil')))))
    (pss_one' (ps_ret' (pv_tuple c T.z_tuple (pa_cons' (pv_call c (dk_chances_in T) (by decide) (pa_cons' (pv_var 0) (pa_cons' (pv_var 1) pa_nil'))) pa_nil'))))))
theorem dk_spares_needed {F : Fx} {K : PySem.W.Frag} {mg : Str → Option Value} {P : Program} {w : World} {base : Heap} (T : Top F K mg) : DOk F P w K mg base "spares_needed" 8 4 (SpP F 4 g_spares_needed) := by
  obtain ⟨f, fd, Fu, gm⟩ := T.f_spares_needed
  refine ⟨⟨f, fd, _, fn_pure T.hF (body := b_spares_needed) Fu sc_spares_needed rfl (by decide) (fun cdv A outer s H E c => ?_) (fun ds _ => rfl), gm, Fu.kp, Fu.binds fun _ _ _ _ _ _ us hl => match us, hl with | [_, _, _, _], _ => rfl⟩, by decide⟩
  exact (pss_cons' (ps_if' (pb_not (pb_val (pv_call c (dk_are_rates T) (by decide) (pa_cons' (pv_var 0) (pa_cons' (pv_var 1) pa_nil'))))) (pss_one' (ps_raise' c (ci := 3) T.e_InvalidSpares)) pss_nil')
    (pss_cons' (ps_expr' (pv_call c (dk_need_whole T) (by decide) (pa_cons' (pv_var 2) (pa_cons' pv_int (pa_cons' (pv_gl T.c_STEPS) pa_nil')))))
    (pss_cons' (ps_expr' (pv_call c (dk_need_small T) (by decide) (pa_cons' (pv_var 3) pa_nil')))
    (pss_cons' (ps_for' c (pit_range1 T.z_range (pa_cons' (pv_add c (pv_gl T.c_MOST_waitingspares) pv_int) pa_nil')) (ptg_name (i := 4) c.nd (.inl rfl)) (pss_one' (ps_if' (pb_cmp cm_ge (pv_call c (dk_lead T) (by decide) (pa_cons' (pv_call c (dk_last_in T) (by decide) (pa_cons' (pv_tup (pa_cons' (pv_var 4) (pa_cons' (pv_var 0) (pa_cons' (pv_var 1) pa_nil')))) (pa_cons' (pv_var 2) pa_nil'))) (pa_cons' (pv_var 3) pa_nil'))) pv_int) (pss_one' (ps_ret' (pv_var 4))) pss_nil')))
    (pss_one' (ps_ret' pv_non))))))
theorem dk_is_chance {F : Fx} {K : PySem.W.Frag} {mg : Str → Option Value} {P : Program} {w : World} {base : Heap} (T : Top F K mg) : DOk F P w K mg base "is_chance" 3 1 (SpP F 1 g_is_chance) := by
  obtain ⟨f, fd, Fu, gm⟩ := T.f_is_chance
  refine ⟨⟨f, fd, _, fn_pure T.hF (body := b_is_chance) Fu sc_is_chance rfl (by decide) (fun cdv A outer s H E c => ?_) (fun ds _ => rfl), gm, Fu.kp, Fu.binds fun _ _ _ _ _ _ us hl => match us, hl with | [_], _ => rfl⟩, by decide⟩
  exact (pss_one' (ps_ret' (pv_and (pv_call c (dk_is_portion T) (by decide) (pa_cons' (pv_var 0) pa_nil')) (pv_one (pv_ch3 cm_le cm_le cm_le pv_int (pv_ix c (pv_var 0) pv_int) (pv_ix c (pv_var 0) pv_int) (pv_gl T.c_BOTTOM))))))
theorem dk_need_parts {F : Fx} {K : PySem.W.Frag} {mg : Str → Option Value} {P : Program} {w : World} {base : Heap} (T : Top F K mg) : DOk F P w K mg base "need_parts" 4 1 (SpP F 1 g_need_parts) := by
  obtain ⟨f, fd, Fu, gm⟩ := T.f_need_parts
  refine ⟨⟨f, fd, _, fn_pure T.hF (body := b_need_parts) Fu sc_need_parts rfl (by decide) (fun cdv A outer s H E c => ?_) (fun ds _ => rfl), gm, Fu.kp, Fu.binds fun _ _ _ _ _ _ us hl => match us, hl with | [_], _ => rfl⟩, by decide⟩
  exact (pss_one' (ps_if' (PBW.pb (pb_or (pb_not (pb_val (pv_call c (dk_is_tuple_of T) (by decide) (pa_cons' (pv_var 0) (pa_cons' pv_int (pa_cons' (pv_gl T.c_PARTS_goodcounts) pa_nil')))))) (pb_or1 (pb_not (pb_val (pv_all c T.z_all (pa_cons' (PN.pv (pn_lc (own := [("part", 1)]) c (pit_seq c (pv_var 0)) (by rfl) (fun _ _ _ _ _ c' => (ptg_name (i := 1) c'.nd (.inl rfl))) (fun _ _ _ _ _ c' => pts_nil') (fun _ _ _ _ _ c' => (pv_call c' (dk_is_chance T) (by decide) (pa_cons' (pv_var 1) pa_nil'))) (.inl rfl) (by decide))) pa_nil'))))))) (pss_one' (ps_raise' c (ci := 4) T.e_InvalidChances)) pss_nil'))
theorem dk_rest_of_goodcounts {F : Fx} {K : PySem.W.Frag} {mg : Str → Option Value} {P : Program} {w : World} {base : Heap} (T : Top F K mg) : DOk F P w K mg base "rest_of_goodcounts" 1 1 (SpP F 1 g_rest_of_goodcounts) := by
  obtain ⟨f, fd, Fu, gm⟩ := T.f_rest_of_goodcounts
  refine ⟨⟨f, fd, _, fn_pure T.hF (body := b_rest_of_goodcounts) Fu sc_rest_of_goodcounts rfl (by decide) (fun cdv A outer s H E c => ?_) (fun ds _ => rfl), gm, Fu.kp, Fu.binds fun _ _ _ _ _ _ us hl => match us, hl with | [_], _ => rfl⟩, by decide⟩
  exact (pss_one' (ps_ret' (pv_tup (pa_cons' (pv_sub (pv_ix c (pv_var 0) pv_int) (pv_ix c (pv_var 0) pv_int)) (pa_cons' (pv_ix c (pv_var 0) pv_int) pa_nil')))))
theorem dk_counts_in {F : Fx} {K : PySem.W.Frag} {mg : Str → Option Value} {P : Program} {w : World} {base : Heap} (T : Top F K mg) : DOk F P w K mg base "counts_in" 3 1 (SpP F 1 g_counts_in) := by
  obtain ⟨f, fd, Fu, gm⟩ := T.f_counts_in
  refine ⟨⟨f, fd, _, fn_pure T.hF (body := b_counts_in) Fu sc_counts_in rfl (by decide) (fun cdv A outer s H E c => ?_) (fun ds _ => rfl), gm, Fu.kp, Fu.binds fun _ _ _ _ _ _ us hl => match us, hl with | [_], _ => rfl⟩, by decide⟩
  exact (pss_cons' (ps_set' c (i := 1) (PN.pv (pn_lst (pa_cons' (pv_tup (pa_cons' pv_int (pa_cons' pv_int pa_nil'))) pa_nil'))) (.inl rfl))
    (pss_cons' (ps_for' c (pit_seq c (pv_var 0)) (ptg_name (i := 2) c.nd (.inl rfl)) (pss_cons' (ps_par2' c (i := 3) (j := 4) (psl_p (pv_add c (PN.pv (pn_lst (pa_cons' (pv_tup (pa_cons' pv_int (pa_cons' pv_int pa_nil'))) pa_nil'))) (pv_var 1))) (psl_p (pv_add c (pv_var 1) (PN.pv (pn_lst (pa_cons' (pv_tup (pa_cons' pv_int (pa_cons' pv_int pa_nil'))) pa_nil'))))) (.inl rfl) (.inl rfl) (by decide))
    (pss_one' (ps_setLc' (i := 1) (own := [("one", 5), ("other", 6)]) c (pit_zip c T.z_zip (pa_cons' (pv_var 3) (pa_cons' (pv_var 4) pa_nil'))) (by rfl) (fun _ _ _ _ _ c' => (ptg_tup c' (ptgs_cons (ptg_name (i := 5) c'.nd (.inl rfl)) (ptgs_cons (ptg_name (i := 6) c'.nd (.inl rfl)) ptgs_nil)))) (fun _ _ _ _ _ c' => pts_nil') (fun _ _ _ _ _ c' => (pv_call c' (dk_plus T) (by decide) (pa_cons' (pv_call c' (dk_times T) (by decide) (pa_cons' (pv_var 5) (pa_cons' (pv_var 2) pa_nil'))) (pa_cons' (pv_call c' (dk_times T) (by decide) (pa_cons' (pv_var 6) (pa_cons' (pv_call c' (dk_rest_of_goodcounts T) (by decide) (pa_cons' (pv_var 2) pa_nil')) pa_nil'))) pa_nil')))) (.inl rfl) (by decide) (.inl rfl)))))
    (pss_one' (ps_ret' (pv_var 1)))))
theorem dk_total_of {F : Fx} {K : PySem.W.Frag} {mg : Str → Option Value} {P : Program} {w : World} {base : Heap} (T : Top F K mg) : DOk F P w K mg base "total_of" 3 1 (SpP F 1 g_total_of) := by
  obtain ⟨f, fd, Fu, gm⟩ := T.f_total_of
  refine ⟨⟨f, fd, _, fn_pure T.hF (body := b_total_of) Fu sc_total_of rfl (by decide) (fun cdv A outer s H E c => ?_) (fun ds _ => rfl), gm, Fu.kp, Fu.binds fun _ _ _ _ _ _ us hl => match us, hl with | [_], _ => rfl⟩, by decide⟩
  exact (pss_cons' (ps_set' c (i := 1) (pv_tup (pa_cons' pv_int (pa_cons' pv_int pa_nil'))) (.inl rfl))
    (pss_cons' (ps_for' c (pit_seq c (pv_var 0)) (ptg_name (i := 2) c.nd (.inl rfl)) (pss_one' (ps_set' c (i := 1) (pv_call c (dk_plus T) (by decide) (pa_cons' (pv_var 1) (pa_cons' (pv_var 2) pa_nil'))) (.inl rfl))))
    (pss_one' (ps_ret' (pv_var 1)))))
theorem dk_count_chances {F : Fx} {K : PySem.W.Frag} {mg : Str → Option Value} {P : Program} {w : World} {base : Heap} (T : Top F K mg) : DOk F P w K mg base "count_chances" 5 1 (SpP F 1 g_count_chances) := by
  obtain ⟨f, fd, Fu, gm⟩ := T.f_count_chances
  refine ⟨⟨f, fd, _, fn_pure T.hF (body := b_count_chances) Fu sc_count_chances rfl (by decide) (fun cdv A outer s H E c => ?_) (fun ds _ => rfl), gm, Fu.kp, Fu.binds fun _ _ _ _ _ _ us hl => match us, hl with | [_], _ => rfl⟩, by decide⟩
  exact (pss_cons' (ps_expr' (pv_call c (dk_need_parts T) (by decide) (pa_cons' (pv_var 0) pa_nil')))
    (pss_one' (ps_ret' (pv_tuple c T.z_tuple (pa_cons' (pv_call c (dk_counts_in T) (by decide) (pa_cons' (pv_var 0) pa_nil')) pa_nil')))))
theorem dk_at_least {F : Fx} {K : PySem.W.Frag} {mg : Str → Option Value} {P : Program} {w : World} {base : Heap} (T : Top F K mg) : DOk F P w K mg base "at_least" 5 2 (SpP F 2 g_at_least) := by
  obtain ⟨f, fd, Fu, gm⟩ := T.f_at_least
  refine ⟨⟨f, fd, _, fn_pure T.hF (body := b_at_least) Fu sc_at_least rfl (by decide) (fun cdv A outer s H E c => ?_) (fun ds _ => rfl), gm, Fu.kp, Fu.binds fun _ _ _ _ _ _ us hl => match us, hl with | [_, _], _ => rfl⟩, by decide⟩
  exact (pss_cons' (ps_expr' (pv_call c (dk_need_parts T) (by decide) (pa_cons' (pv_var 0) pa_nil')))
    (pss_cons' (ps_expr' (pv_call c (dk_need_whole T) (by decide) (pa_cons' (pv_var 1) (pa_cons' pv_int (pa_cons' (pv_add c (pv_gl T.c_PARTS_goodcounts) pv_int) pa_nil')))))
    (pss_one' (ps_ret' (pv_call c (dk_total_of T) (by decide) (pa_cons' (pv_slice c (pv_call c (dk_counts_in T) (by decide) (pa_cons' (pv_var 0) pa_nil')) (po_some' (pv_var 1)) po_none') pa_nil'))))))
theorem dk_mean_good {F : Fx} {K : PySem.W.Frag} {mg : Str → Option Value} {P : Program} {w : World} {base : Heap} (T : Top F K mg) : DOk F P w K mg base "mean_good" 5 1 (SpP F 1 g_mean_good) := by
  obtain ⟨f, fd, Fu, gm⟩ := T.f_mean_good
  refine ⟨⟨f, fd, _, fn_pure T.hF (body := b_mean_good) Fu sc_mean_good rfl (by decide) (fun cdv A outer s H E c => ?_) (fun ds _ => rfl), gm, Fu.kp, Fu.binds fun _ _ _ _ _ _ us hl => match us, hl with | [_], _ => rfl⟩, by decide⟩
  exact (pss_cons' (ps_expr' (pv_call c (dk_need_parts T) (by decide) (pa_cons' (pv_var 0) pa_nil')))
    (pss_one' (ps_ret' (pv_call c (dk_total_of T) (by decide) (pa_cons' (pv_var 0) pa_nil')))))
theorem dk_cut {F : Fx} {K : PySem.W.Frag} {mg : Str → Option Value} {P : Program} {w : World} {base : Heap} (T : Top F K mg) : DOk F P w K mg base "cut" 1 1 (SpP F 1 g_cut) := by
  obtain ⟨f, fd, Fu, gm⟩ := T.f_cut
  refine ⟨⟨f, fd, _, fn_pure T.hF (body := b_cut) Fu sc_cut rfl (by decide) (fun cdv A outer s H E c => ?_) (fun ds _ => rfl), gm, Fu.kp, Fu.binds fun _ _ _ _ _ _ us hl => match us, hl with | [_], _ => rfl⟩, by decide⟩
  exact (pss_cons' (ps_set' c (i := 1) (pv_len c T.z_len (pa_cons' (pv_var 0) pa_nil')) (.inl rfl))
    (pss_cons' (ps_while' c 1000000 (PBW.pb (pb_and (pb_cmp cm_gt (pv_var 1) pv_int) (pb_and1 (pb_cmp (cm_eq c) (pv_ix c (pv_var 0) (pv_sub (pv_var 1) pv_int)) pv_int)))) (pss_one' (ps_set' c (i := 1) (pv_sub (pv_var 1) pv_int) (.inl rfl))))
    (pss_one' (ps_ret' (pv_tuple c T.z_tuple (pa_cons' (pv_slice c (pv_var 0) po_none' (po_some' (pv_var 1))) pa_nil'))))))
theorem dk_add {F : Fx} {K : PySem.W.Frag} {mg : Str → Option Value} {P : Program} {w : World} {base : Heap} (T : Top F K mg) : DOk F P w K mg base "add" 2 2 (SpP F 2 g_add) := by
  obtain ⟨f, fd, Fu, gm⟩ := T.f_add
  refine ⟨⟨f, fd, _, fn_pure T.hF (body := b_add) Fu sc_add rfl (by decide) (fun cdv A outer s H E c => ?_) (fun ds _ => rfl), gm, Fu.kp, Fu.binds fun _ _ _ _ _ _ us hl => match us, hl with | [_, _], _ => rfl⟩, by decide⟩
  exact (pss_cons' (ps_set' c (i := 2) (pv_max2 c T.z_max (pa_cons' (pv_len c T.z_len (pa_cons' (pv_var 0) pa_nil')) (pa_cons' (pv_len c T.z_len (pa_cons' (pv_var 1) pa_nil')) pa_nil'))) (.inl rfl))
    (pss_cons' (ps_par2' c (i := 3) (j := 4) (psl_p (pv_add c (PN.pv (pn_list c T.z_list (pa_cons' (pv_var 0) pa_nil'))) (pv_mul c (PN.pv (pn_lst (pa_cons' pv_int pa_nil'))) (pv_sub (pv_var 2) (pv_len c T.z_len (pa_cons' (pv_var 0) pa_nil')))))) (psl_p (pv_add c (PN.pv (pn_list c T.z_list (pa_cons' (pv_var 1) pa_nil'))) (pv_mul c (PN.pv (pn_lst (pa_cons' pv_int pa_nil'))) (pv_sub (pv_var 2) (pv_len c T.z_len (pa_cons' (pv_var 1) pa_nil')))))) (.inl rfl) (.inl rfl) (by decide))
    (pss_one' (ps_ret' (pv_call c (dk_cut T) (by decide) (pa_cons' (PN.pv (pn_lc (own := [("part", 5), ("further", 6)]) c (pit_zip c T.z_zip (pa_cons' (pv_var 3) (pa_cons' (pv_var 4) pa_nil'))) (by rfl) (fun _ _ _ _ _ c' => (ptg_tup c' (ptgs_cons (ptg_name (i := 5) c'.nd (.inl rfl)) (ptgs_cons (ptg_name (i := 6) c'.nd (.inl rfl)) ptgs_nil)))) (fun _ _ _ _ _ c' => pts_nil') (fun _ _ _ _ _ c' => (pv_add c' (pv_var 5) (pv_var 6))) (.inl rfl) (by decide))) pa_nil'))))))
theorem dk_multiply {F : Fx} {K : PySem.W.Frag} {mg : Str → Option Value} {P : Program} {w : World} {base : Heap} (T : Top F K mg) : DOk F P w K mg base "multiply" 2 2 (SpP F 2 g_multiply) := by
  obtain ⟨f, fd, Fu, gm⟩ := T.f_multiply
  refine ⟨⟨f, fd, _, fn_pure T.hF (body := b_multiply) Fu sc_multiply rfl (by decide) (fun cdv A outer s H E c => ?_) (fun ds _ => rfl), gm, Fu.kp, Fu.binds fun _ _ _ _ _ _ us hl => match us, hl with | [_, _], _ => rfl⟩, by decide⟩
  exact (pss_cons' (ps_own' c (i := 2) (pn_mul c (PN.pv (pn_lst (pa_cons' pv_int pa_nil'))) (pv_max2 c T.z_max (pa_cons' (pv_sub (pv_add c (pv_len c T.z_len (pa_cons' (pv_var 0) pa_nil')) (pv_len c T.z_len (pa_cons' (pv_var 1) pa_nil'))) pv_int) (pa_cons' pv_int pa_nil')))) (.inl rfl))
    (pss_cons' (ps_for' c (pit_enum c T.z_enumerate (pa_cons' (pv_var 0) pa_nil')) (ptg_tup c (ptgs_cons (ptg_name (i := 3) c.nd (.inl rfl)) (ptgs_cons (ptg_name (i := 4) c.nd (.inl rfl)) ptgs_nil))) (pss_one' (ps_for' c (pit_enum c T.z_enumerate (pa_cons' (pv_var 1) pa_nil')) (ptg_tup c (ptgs_cons (ptg_name (i := 5) c.nd (.inl rfl)) (ptgs_cons (ptg_name (i := 6) c.nd (.inl rfl)) ptgs_nil))) (pss_one' (ps_setIx' (i := 2) (pv_add c (pv_ixV c 2 (pv_add c (pv_var 3) (pv_var 5))) (pv_mul c (pv_var 4) (pv_var 6))) (pv_add c (pv_var 3) (pv_var 5)))))))
    (pss_one' (ps_ret' (pv_call c (dk_cut T) (by decide) (pa_cons' (pv_frz 2 (.inl rfl)) pa_nil'))))))
theorem dk_need_numbers {F : Fx} {K : PySem.W.Frag} {mg : Str → Option Value} {P : Program} {w : World} {base : Heap} (T : Top F K mg) : DOk F P w K mg base "need_numbers" 3 2 (SpP F 2 g_need_numbers) := by
  obtain ⟨f, fd, Fu, gm⟩ := T.f_need_numbers
  refine ⟨⟨f, fd, _, fn_pure T.hF (body := b_need_numbers) Fu sc_need_numbers rfl (by decide) (fun cdv A outer s H E c => ?_) (fun ds _ => rfl), gm, Fu.kp, Fu.binds fun _ _ _ _ _ _ us hl => match us, hl with | [_, _], _ => rfl⟩, by decide⟩
  exact (pss_cons' (ps_expr' (pv_call c (dk_need_whole T) (by decide) (pa_cons' (pv_var 0) (pa_cons' pv_int (pa_cons' (pv_gl T.c_MOST_likeparts) pa_nil')))))
    (pss_one' (ps_expr' (pv_call c (dk_need_whole T) (by decide) (pa_cons' (pv_var 1) (pa_cons' pv_int (pa_cons' (pv_add c (pv_gl T.c_MOST_likeparts) pv_int) pa_nil')))))))
theorem dk_justs_in {F : Fx} {K : PySem.W.Frag} {mg : Str → Option Value} {P : Program} {w : World} {base : Heap} (T : Top F K mg) : DOk F P w K mg base "justs_in" 3 1 (SpP F 1 g_justs_in) := by
  obtain ⟨f, fd, Fu, gm⟩ := T.f_justs_in
  refine ⟨⟨f, fd, _, fn_pure T.hF (body := b_justs_in) Fu sc_justs_in rfl (by decide) (fun cdv A outer s H E c => ?_) (fun ds _ => rfl), gm, Fu.kp, Fu.binds fun _ _ _ _ _ _ us hl => match us, hl with | [_], _ => rfl⟩, by decide⟩
  exact (pss_cons' (ps_set' c (i := 1) (PN.pv (pn_lst (pa_cons' (pv_tup (pa_cons' pv_int pa_nil')) pa_nil'))) (.inl rfl))
    (pss_cons' (ps_for' c (pit_range1 T.z_range (pa_cons' (pv_var 0) pa_nil')) (ptg_name (i := 2) c.nd (.inl rfl)) (pss_cons' (ps_par2' c (i := 3) (j := 4) (psl_p (pv_add c (PN.pv (pn_lst (pa_cons' (pv_tup pa_nil') pa_nil'))) (pv_var 1))) (psl_p (pv_add c (pv_var 1) (PN.pv (pn_lst (pa_cons' (pv_tup pa_nil') pa_nil'))))) (.inl rfl) (.inl rfl) (by decide))
    (pss_one' (ps_setLc' (i := 1) (own := [("one", 5), ("other", 6)]) c (pit_zip c T.z_zip (pa_cons' (pv_var 3) (pa_cons' (pv_var 4) pa_nil'))) (by rfl) (fun _ _ _ _ _ c' => (ptg_tup c' (ptgs_cons (ptg_name (i := 5) c'.nd (.inl rfl)) (ptgs_cons (ptg_name (i := 6) c'.nd (.inl rfl)) ptgs_nil)))) (fun _ _ _ _ _ c' => pts_nil') (fun _ _ _ _ _ c' => (pv_call c' (dk_add T) (by decide) (pa_cons' (pv_call c' (dk_multiply T) (by decide) (pa_cons' (pv_var 5) (pa_cons' (pv_tup (pa_cons' pv_int (pa_cons' pv_int pa_nil'))) pa_nil'))) (pa_cons' (pv_call c' (dk_multiply T) (by decide) (pa_cons' (pv_var 6) (pa_cons' (pv_tup (pa_cons' pv_int (pa_cons' (pv_neg pv_int) pa_nil'))) pa_nil'))) pa_nil')))) (.inl rfl) (by decide) (.inl rfl)))))
    (pss_one' (ps_ret' (pv_var 1)))))
theorem dk_at_least_in {F : Fx} {K : PySem.W.Frag} {mg : Str → Option Value} {P : Program} {w : World} {base : Heap} (T : Top F K mg) : DOk F P w K mg base "at_least_in" 4 2 (SpP F 2 g_at_least_in) := by
  obtain ⟨f, fd, Fu, gm⟩ := T.f_at_least_in
  refine ⟨⟨f, fd, _, fn_pure T.hF (body := b_at_least_in) Fu sc_at_least_in rfl (by decide) (fun cdv A outer s H E c => ?_) (fun ds _ => rfl), gm, Fu.kp, Fu.binds fun _ _ _ _ _ _ us hl => match us, hl with | [_, _], _ => rfl⟩, by decide⟩
  exact (pss_cons' (ps_set' c (i := 2) (pv_tup pa_nil') (.inl rfl))
    (pss_cons' (ps_for' c (pit_seq c (pv_slice c (pv_call c (dk_justs_in T) (by decide) (pa_cons' (pv_var 0) pa_nil')) (po_some' (pv_var 1)) po_none')) (ptg_name (i := 3) c.nd (.inl rfl)) (pss_one' (ps_set' c (i := 2) (pv_call c (dk_add T) (by decide) (pa_cons' (pv_var 2) (pa_cons' (pv_var 3) pa_nil'))) (.inl rfl))))
    (pss_one' (ps_ret' (pv_var 2)))))
theorem dk_value_in {F : Fx} {K : PySem.W.Frag} {mg : Str → Option Value} {P : Program} {w : World} {base : Heap} (T : Top F K mg) : DOk F P w K mg base "value_in" 2 2 (SpP F 2 g_value_in) := by
  obtain ⟨f, fd, Fu, gm⟩ := T.f_value_in
  refine ⟨⟨f, fd, _, fn_pure T.hF (body := b_value_in) Fu sc_value_in rfl (by decide) (fun cdv A outer s H E c => ?_) (fun ds _ => rfl), gm, Fu.kp, Fu.binds fun _ _ _ _ _ _ us hl => match us, hl with | [_, _], _ => rfl⟩, by decide⟩
  exact (pss_cons' (ps_tg' (pv_tup (pa_cons' pv_int (pa_cons' pv_int pa_nil'))) (ptg_tup c (ptgs_cons (ptg_name (i := 2) c.nd (.inl rfl)) (ptgs_cons (ptg_name (i := 3) c.nd (.inl rfl)) ptgs_nil))))
    (pss_cons' (ps_for' c (pit_seq c (pv_back c (pv_var 0) po_none' po_none')) (ptg_name (i := 4) c.nd (.inl rfl)) (pss_one' (ps_par2' c (i := 2) (j := 3) (psl_p (pv_add c (pv_mul c (pv_var 2) (pv_ix c (pv_var 1) pv_int)) (pv_mul c (pv_mul c (pv_var 4) (pv_var 3)) (pv_ix c (pv_var 1) pv_int)))) (psl_p (pv_mul c (pv_var 3) (pv_ix c (pv_var 1) pv_int))) (.inl rfl) (.inl rfl) (by decide))))
    (pss_one' (ps_ret' (pv_call c (dk_lowest T) (by decide) (pa_cons' (pv_var 2) (pa_cons' (pv_var 3) pa_nil')))))))
theorem dk_at_least_alike {F : Fx} {K : PySem.W.Frag} {mg : Str → Option Value} {P : Program} {w : World} {base : Heap} (T : Top F K mg) : DOk F P w K mg base "at_least_alike" 5 3 (SpP F 3 g_at_least_alike) := by
  obtain ⟨f, fd, Fu, gm⟩ := T.f_at_least_alike
  refine ⟨⟨f, fd, _, fn_pure T.hF (body := b_at_least_alike) Fu sc_at_least_alike rfl (by decide) (fun cdv A outer s H E c => ?_) (fun ds _ => rfl), gm, Fu.kp, Fu.binds fun _ _ _ _ _ _ us hl => match us, hl with | [_, _, _], _ => rfl⟩, by decide⟩
  exact (pss_cons' (ps_if' (pb_not (pb_val (pv_call c (dk_is_chance T) (by decide) (pa_cons' (pv_var 0) pa_nil')))) (pss_one' (ps_raise' c (ci := 1) T.e_InvalidPortion)) pss_nil')
    (pss_cons' (ps_expr' (pv_call c (dk_need_numbers T) (by decide) (pa_cons' (pv_var 1) (pa_cons' (pv_var 2) pa_nil'))))
    (pss_one' (ps_ret' (pv_call c (dk_value_in T) (by decide) (pa_cons' (pv_call c (dk_at_least_in T) (by decide) (pa_cons' (pv_var 1) (pa_cons' (pv_var 2) pa_nil'))) (pa_cons' (pv_var 0) pa_nil')))))))
theorem dk_is_rate {F : Fx} {K : PySem.W.Frag} {mg : Str → Option Value} {P : Program} {w : World} {base : Heap} (T : Top F K mg) : DOk F P w K mg base "is_rate" 3 1 (SpP F 1 g_is_rate) := by
  obtain ⟨f, fd, Fu, gm⟩ := T.f_is_rate
  refine ⟨⟨f, fd, _, fn_pure T.hF (body := b_is_rate) Fu sc_is_rate rfl (by decide) (fun cdv A outer s H E c => ?_) (fun ds _ => rfl), gm, Fu.kp, Fu.binds fun _ _ _ _ _ _ us hl => match us, hl with | [_], _ => rfl⟩, by decide⟩
  exact (pss_one' (ps_ret' (pv_and (pv_call c (dk_is_portion T) (by decide) (pa_cons' (pv_var 0) pa_nil')) (pv_and (pv_ch2 cm_le cm_le pv_int (pv_ix c (pv_var 0) pv_int) (pv_gl T.c_RATE)) (pv_one (pv_cmp cm_le (pv_ix c (pv_var 0) pv_int) (pv_gl T.c_RATE)))))))
theorem dk_fits_mendladders {F : Fx} {K : PySem.W.Frag} {mg : Str → Option Value} {P : Program} {w : World} {base : Heap} (T : Top F K mg) : DOk F P w K mg base "fits_mendladders" 4 1 (SpP F 1 g_fits_mendladders) := by
  obtain ⟨f, fd, Fu, gm⟩ := T.f_fits_mendladders
  refine ⟨⟨f, fd, _, fn_pure T.hF (body := b_fits_mendladders) Fu sc_fits_mendladders rfl (by decide) (fun cdv A outer s H E c => ?_) (fun ds _ => rfl), gm, Fu.kp, Fu.binds fun _ _ _ _ _ _ us hl => match us, hl with | [_], _ => rfl⟩, by decide⟩
  exact (pss_cons' (ps_if' (PBW.pb (pb_or (pb_not (pb_val (pv_call c (dk_is_tuple_of T) (by decide) (pa_cons' (pv_var 0) (pa_cons' pv_int (pa_cons' pv_int pa_nil')))))) (pb_or (pb_not (pb_val (pv_call c (dk_is_whole T) (by decide) (pa_cons' (pv_ix c (pv_var 0) pv_int) (pa_cons' pv_int (pa_cons' (pv_gl T.c_PARTS_mendladders) pa_nil')))))) (pb_or1 (pb_not (pb_val (pv_call c (dk_is_whole T) (by decide) (pa_cons' (pv_ix c (pv_var 0) pv_int) (pa_cons' pv_int (pa_cons' (pv_ix c (pv_var 0) pv_int) pa_nil')))))))))) (pss_one' (ps_ret' pv_bl)) pss_nil')
    (pss_one' (ps_ret' (pv_and (pv_call c (dk_is_rate T) (by decide) (pa_cons' (pv_ix c (pv_var 0) pv_int) pa_nil')) (pv_one (pv_call c (dk_is_rate T) (by decide) (pa_cons' (pv_ix c (pv_var 0) pv_int) pa_nil')))))))
theorem dk_need_ladder {F : Fx} {K : PySem.W.Frag} {mg : Str → Option Value} {P : Program} {w : World} {base : Heap} (T : Top F K mg) : DOk F P w K mg base "need_ladder" 5 1 (SpP F 1 g_need_ladder) := by
  obtain ⟨f, fd, Fu, gm⟩ := T.f_need_ladder
  refine ⟨⟨f, fd, _, fn_pure T.hF (body := b_need_ladder) Fu sc_need_ladder rfl (by decide) (fun cdv A outer s H E c => ?_) (fun ds _ => rfl), gm, Fu.kp, Fu.binds fun _ _ _ _ _ _ us hl => match us, hl with | [_], _ => rfl⟩, by decide⟩
  exact (pss_one' (ps_if' (pb_not (pb_val (pv_call c (dk_fits_mendladders T) (by decide) (pa_cons' (pv_var 0) pa_nil')))) (pss_one' (ps_raise' c (ci := 2) T.e_InvalidRates)) pss_nil'))
theorem dk_flows_in {F : Fx} {K : PySem.W.Frag} {mg : Str → Option Value} {P : Program} {w : World} {base : Heap} (T : Top F K mg) : DOk F P w K mg base "flows_in" 3 1 (SpP F 1 g_flows_in) := by
  obtain ⟨f, fd, Fu, gm⟩ := T.f_flows_in
  refine ⟨⟨f, fd, _, fn_pure T.hF (body := b_flows_in) Fu sc_flows_in rfl (by decide) (fun cdv A outer s H E c => ?_) (fun ds _ => rfl), gm, Fu.kp, Fu.binds fun _ _ _ _ _ _ us hl => match us, hl with | [_], _ => rfl⟩, by decide⟩
  exact (pss_cons' (ps_tg' (pv_var 0) (ptg_tup c (ptgs_cons (ptg_name (i := 1) c.nd (.inl rfl)) (ptgs_cons (ptg_name (i := 2) c.nd (.inl rfl)) (ptgs_cons (ptg_name (i := 3) c.nd (.inl rfl)) (ptgs_cons (ptg_name (i := 4) c.nd (.inl rfl)) ptgs_nil))))))
    (pss_one' (ps_ret' (PN.pv (pn_lc (own := [("k", 5)]) c (pit_range1 T.z_range (pa_cons' (pv_add c (pv_var 1) pv_int) pa_nil')) (by rfl) (fun _ _ _ _ _ c' => (ptg_name (i := 5) c'.nd (.inl rfl))) (fun _ _ _ _ _ c' => pts_nil') (fun _ _ _ _ _ c' => (pv_tup (pa_cons' (pv_call c' (dk_times T) (by decide) (pa_cons' (pv_tup (pa_cons' (pv_var 5) (pa_cons' pv_int pa_nil'))) (pa_cons' (pv_var 3) pa_nil'))) (pa_cons' (pv_call c' (dk_times T) (by decide) (pa_cons' (pv_tup (pa_cons' (pv_min2 c' T.z_min (pa_cons' (pv_sub (pv_var 1) (pv_var 5)) (pa_cons' (pv_var 2) pa_nil'))) (pa_cons' pv_int pa_nil'))) (pa_cons' (pv_var 4) pa_nil'))) pa_nil')))) (.inl rfl) (by decide))))))
theorem dk_shares_in {F : Fx} {K : PySem.W.Frag} {mg : Str → Option Value} {P : Program} {w : World} {base : Heap} (T : Top F K mg) : DOk F P w K mg base "shares_in" 4 1 (SpP F 1 g_shares_in) := by
  obtain ⟨f, fd, Fu, gm⟩ := T.f_shares_in
  refine ⟨⟨f, fd, _, fn_pure T.hF (body := b_shares_in) Fu sc_shares_in rfl (by decide) (fun cdv A outer s H E c => ?_) (fun ds _ => rfl), gm, Fu.kp, Fu.binds fun _ _ _ _ _ _ us hl => match us, hl with | [_], _ => rfl⟩, by decide⟩
  exact (pss_cons' (ps_parT' c (psls_cons (psl_p (pv_call c (dk_flows_in T) (by decide) (pa_cons' (pv_var 0) pa_nil'))) (psls_cons (psl_n (pn_lst (pa_cons' (pv_tup (pa_cons' pv_int (pa_cons' pv_int pa_nil'))) pa_nil'))) (psls_cons (psl_p (pv_tup (pa_cons' pv_int (pa_cons' pv_int pa_nil')))) psls_nil))) (pns_cons (i := 1) c.nd (pns_cons (i := 2) c.nd (pns_cons (i := 3) c.nd pns_nil))) (.inl rfl))
    (pss_cons' (ps_for' c (pit_zip c T.z_zip (pa_cons' (pv_var 1) (pa_cons' (pv_slice c (pv_var 1) (po_some' pv_int) po_none') pa_nil'))) (ptg_tup c (ptgs_cons (ptg_tup c (ptgs_cons (ptg_name (i := 4) c.nd (.inl rfl)) (ptgs_cons (ptg_name (i := 5) c.nd (.inl rfl)) ptgs_nil))) (ptgs_cons (ptg_tup c (ptgs_cons (ptg_name (i := 6) c.nd (.inl rfl)) (ptgs_cons (ptg_name (i := 7) c.nd (.inl rfl)) ptgs_nil))) ptgs_nil))) (pss_cons' (ps_append' (i := 2) (pv_call c (dk_quotient T) (by decide) (pa_cons' (pv_call c (dk_times T) (by decide) (pa_cons' (pv_ixV c 2 (pv_neg pv_int)) (pa_cons' (pv_var 5) pa_nil'))) (pa_cons' (pv_var 6) pa_nil'))))
    (pss_one' (ps_set' c (i := 3) (pv_call c (dk_plus T) (by decide) (pa_cons' (pv_var 3) (pa_cons' (pv_ixV c 2 (pv_neg pv_int)) pa_nil'))) (.inl rfl)))))
    (pss_one' (ps_ret' (PN.pv (pn_lc (own := [("part", 8)]) c (pit_seq c (pv_frz 2 (.inl rfl))) (by rfl) (fun _ _ _ _ _ c' => (ptg_name (i := 8) c'.nd (.inl rfl))) (fun _ _ _ _ _ c' => pts_nil') (fun _ _ _ _ _ c' => (pv_call c' (dk_quotient T) (by decide) (pa_cons' (pv_var 8) (pa_cons' (pv_var 3) pa_nil')))) (.inl rfl) (by decide)))))))
theorem dk_flows_of {F : Fx} {K : PySem.W.Frag} {mg : Str → Option Value} {P : Program} {w : World} {base : Heap} (T : Top F K mg) : DOk F P w K mg base "flows_of" 6 1 (SpP F 1 g_flows_of) := by
  obtain ⟨f, fd, Fu, gm⟩ := T.f_flows_of
  refine ⟨⟨f, fd, _, fn_pure T.hF (body := b_flows_of) Fu sc_flows_of rfl (by decide) (fun cdv A outer s H E c => ?_) (fun ds _ => rfl), gm, Fu.kp, Fu.binds fun _ _ _ _ _ _ us hl => match us, hl with | [_], _ => rfl⟩, by decide⟩
  exact (pss_cons' (ps_expr' (pv_call c (dk_need_ladder T) (by decide) (pa_cons' (pv_var 0) pa_nil')))
    (pss_one' (ps_ret' (pv_tuple c T.z_tuple (pa_cons' (pv_call c (dk_flows_in T) (by decide) (pa_cons' (pv_var 0) pa_nil')) pa_nil')))))
theorem dk_ladder_shares {F : Fx} {K : PySem.W.Frag} {mg : Str → Option Value} {P : Program} {w : World} {base : Heap} (T : Top F K mg) : DOk F P w K mg base "ladder_shares" 6 1 (SpP F 1 g_ladder_shares) := by
  obtain ⟨f, fd, Fu, gm⟩ := T.f_ladder_shares
  refine ⟨⟨f, fd, _, fn_pure T.hF (body := b_ladder_shares) Fu sc_ladder_shares rfl (by decide) (fun cdv A outer s H E c => ?_) (fun ds _ => rfl), gm, Fu.kp, Fu.binds fun _ _ _ _ _ _ us hl => match us, hl with | [_], _ => rfl⟩, by decide⟩
  exact (pss_cons' (ps_expr' (pv_call c (dk_need_ladder T) (by decide) (pa_cons' (pv_var 0) pa_nil')))
    (pss_one' (ps_ret' (pv_tuple c T.z_tuple (pa_cons' (pv_call c (dk_shares_in T) (by decide) (pa_cons' (pv_var 0) pa_nil')) pa_nil')))))
theorem dk_mean_up {F : Fx} {K : PySem.W.Frag} {mg : Str → Option Value} {P : Program} {w : World} {base : Heap} (T : Top F K mg) : DOk F P w K mg base "mean_up" 6 1 (SpP F 1 g_mean_up) := by
  obtain ⟨f, fd, Fu, gm⟩ := T.f_mean_up
  refine ⟨⟨f, fd, _, fn_pure T.hF (body := b_mean_up) Fu sc_mean_up rfl (by decide) (fun cdv A outer s H E c => ?_) (fun ds _ => rfl), gm, Fu.kp, Fu.binds fun _ _ _ _ _ _ us hl => match us, hl with | [_], _ => rfl⟩, by decide⟩
  exact (pss_cons' (ps_expr' (pv_call c (dk_need_ladder T) (by decide) (pa_cons' (pv_var 0) pa_nil')))
    (pss_cons' (ps_set' c (i := 1) (pv_tup (pa_cons' pv_int (pa_cons' pv_int pa_nil'))) (.inl rfl))
    (pss_cons' (ps_for' c (pit_enum c T.z_enumerate (pa_cons' (pv_call c (dk_shares_in T) (by decide) (pa_cons' (pv_var 0) pa_nil')) pa_nil')) (ptg_tup c (ptgs_cons (ptg_name (i := 2) c.nd (.inl rfl)) (ptgs_cons (ptg_name (i := 3) c.nd (.inl rfl)) ptgs_nil))) (pss_one' (ps_set' c (i := 1) (pv_call c (dk_plus T) (by decide) (pa_cons' (pv_var 1) (pa_cons' (pv_call c (dk_times T) (by decide) (pa_cons' (pv_tup (pa_cons' (pv_var 2) (pa_cons' pv_int pa_nil'))) (pa_cons' (pv_var 3) pa_nil'))) pa_nil'))) (.inl rfl))))
    (pss_one' (ps_ret' (pv_var 1))))))
theorem dk_share_from {F : Fx} {K : PySem.W.Frag} {mg : Str → Option Value} {P : Program} {w : World} {base : Heap} (T : Top F K mg) : DOk F P w K mg base "share_from" 6 2 (SpP F 2 g_share_from) := by
  obtain ⟨f, fd, Fu, gm⟩ := T.f_share_from
  refine ⟨⟨f, fd, _, fn_pure T.hF (body := b_share_from) Fu sc_share_from rfl (by decide) (fun cdv A outer s H E c => ?_) (fun ds _ => rfl), gm, Fu.kp, Fu.binds fun _ _ _ _ _ _ us hl => match us, hl with | [_, _], _ => rfl⟩, by decide⟩
  exact (pss_cons' (ps_expr' (pv_call c (dk_need_ladder T) (by decide) (pa_cons' (pv_var 0) pa_nil')))
    (pss_cons' (ps_expr' (pv_call c (dk_need_whole T) (by decide) (pa_cons' (pv_var 1) (pa_cons' pv_int (pa_cons' (pv_gl T.c_PARTS_mendladders) pa_nil')))))
    (pss_cons' (ps_set' c (i := 2) (pv_tup (pa_cons' pv_int (pa_cons' pv_int pa_nil'))) (.inl rfl))
    (pss_cons' (ps_for' c (pit_seq c (pv_slice c (pv_call c (dk_shares_in T) (by decide) (pa_cons' (pv_var 0) pa_nil')) (po_some' (pv_var 1)) po_none')) (ptg_name (i := 3) c.nd (.inl rfl)) (pss_one' (ps_set' c (i := 2) (pv_call c (dk_plus T) (by decide) (pa_cons' (pv_var 2) (pa_cons' (pv_var 3) pa_nil'))) (.inl rfl))))
    (pss_one' (ps_ret' (pv_var 2)))))))
theorem dk_steps_down {F : Fx} {K : PySem.W.Frag} {mg : Str → Option Value} {P : Program} {w : World} {base : Heap} (T : Top F K mg) : DOk F P w K mg base "steps_down" 3 1 (SpP F 1 g_steps_down) := by
  obtain ⟨f, fd, Fu, gm⟩ := T.f_steps_down
  refine ⟨⟨f, fd, _, fn_pure T.hF (body := b_steps_down) Fu sc_steps_down rfl (by decide) (fun cdv A outer s H E c => ?_) (fun ds _ => rfl), gm, Fu.kp, Fu.binds fun _ _ _ _ _ _ us hl => match us, hl with | [_], _ => rfl⟩, by decide⟩
  exact (pss_cons' (ps_par2' c (i := 1) (j := 2) (psl_n (pn_lst pa_nil')) (psl_p (pv_tup (pa_cons' pv_int (pa_cons' pv_int pa_nil')))) (.inl rfl) (.inl rfl) (by decide))
    (pss_cons' (ps_for' c (pit_seq c (pv_back c (pv_var 0) po_none' (po_some' pv_int))) (ptg_tup c (ptgs_cons (ptg_name (i := 3) c.nd (.inl rfl)) (ptgs_cons (ptg_name (i := 4) c.nd (.inl rfl)) ptgs_nil))) (pss_cons' (ps_set' c (i := 2) (pv_call c (dk_quotient T) (by decide) (pa_cons' (pv_call c (dk_plus T) (by decide) (pa_cons' (pv_tup (pa_cons' pv_int (pa_cons' pv_int pa_nil'))) (pa_cons' (pv_call c (dk_times T) (by decide) (pa_cons' (pv_var 4) (pa_cons' (pv_var 2) pa_nil'))) pa_nil'))) (pa_cons' (pv_var 3) pa_nil'))) (.inl rfl))
    (pss_one' (ps_append' (i := 1) (pv_var 2)))))
    (pss_one' (ps_ret' (pv_back c (pv_frz 1 (.inl rfl)) po_none' po_none')))))
theorem dk_steps_up {F : Fx} {K : PySem.W.Frag} {mg : Str → Option Value} {P : Program} {w : World} {base : Heap} (T : Top F K mg) : DOk F P w K mg base "steps_up" 3 1 (SpP F 1 g_steps_up) := by
  obtain ⟨f, fd, Fu, gm⟩ := T.f_steps_up
  refine ⟨⟨f, fd, _, fn_pure T.hF (body := b_steps_up) Fu sc_steps_up rfl (by decide) (fun cdv A outer s H E c => ?_) (fun ds _ => rfl), gm, Fu.kp, Fu.binds fun _ _ _ _ _ _ us hl => match us, hl with | [_], _ => rfl⟩, by decide⟩
  exact (pss_cons' (ps_par2' c (i := 1) (j := 2) (psl_n (pn_lst pa_nil')) (psl_p (pv_tup (pa_cons' pv_int (pa_cons' pv_int pa_nil')))) (.inl rfl) (.inl rfl) (by decide))
    (pss_cons' (ps_for' c (pit_seq c (pv_slice c (pv_var 0) po_none' (po_some' (pv_neg pv_int)))) (ptg_tup c (ptgs_cons (ptg_name (i := 3) c.nd (.inl rfl)) (ptgs_cons (ptg_name (i := 4) c.nd (.inl rfl)) ptgs_nil))) (pss_cons' (ps_set' c (i := 2) (pv_call c (dk_quotient T) (by decide) (pa_cons' (pv_call c (dk_plus T) (by decide) (pa_cons' (pv_tup (pa_cons' pv_int (pa_cons' pv_int pa_nil'))) (pa_cons' (pv_call c (dk_times T) (by decide) (pa_cons' (pv_var 3) (pa_cons' (pv_var 2) pa_nil'))) pa_nil'))) (pa_cons' (pv_var 4) pa_nil'))) (.inl rfl))
    (pss_one' (ps_append' (i := 1) (pv_var 2)))))
    (pss_one' (ps_ret' (pv_frz 1 (.inl rfl))))))
theorem dk_means_in {F : Fx} {K : PySem.W.Frag} {mg : Str → Option Value} {P : Program} {w : World} {base : Heap} (T : Top F K mg) : DOk F P w K mg base "means_in" 4 2 (SpP F 2 g_means_in) := by
  obtain ⟨f, fd, Fu, gm⟩ := T.f_means_in
  refine ⟨⟨f, fd, _, fn_pure T.hF (body := b_means_in) Fu sc_means_in rfl (by decide) (fun cdv A outer s H E c => ?_) (fun ds _ => rfl), gm, Fu.kp, Fu.binds fun _ _ _ _ _ _ us hl => match us, hl with | [_, _], _ => rfl⟩, by decide⟩
  exact (pss_cons' (ps_set' c (i := 2) (pv_call c (dk_flows_in T) (by decide) (pa_cons' (pv_var 0) pa_nil')) (.inl rfl))
    (pss_cons' (ps_par2' c (i := 3) (j := 4) (psl_p (pv_call c (dk_steps_down T) (by decide) (pa_cons' (pv_var 2) pa_nil'))) (psl_p (pv_call c (dk_steps_up T) (by decide) (pa_cons' (pv_var 2) pa_nil'))) (.inl rfl) (.inl rfl) (by decide))
    (pss_cons' (ps_own' c (i := 5) (pn_lst pa_nil') (.inl rfl))
    (pss_cons' (ps_for' c (pit_range1 T.z_range (pa_cons' (pv_add c (pv_ix c (pv_var 0) pv_int) pv_int) pa_nil')) (ptg_name (i := 6) c.nd (.inl rfl)) (pss_cons' (ps_set' c (i := 7) (pv_tup (pa_cons' pv_int (pa_cons' pv_int pa_nil'))) (.inl rfl))
    (pss_cons' (ps_for' c (pit_seq c (pv_add c (pv_slice c (pv_var 3) (po_some' (pv_var 1)) (po_some' (pv_var 6))) (pv_slice c (pv_var 4) (po_some' (pv_var 6)) (po_some' (pv_var 1))))) (ptg_name (i := 8) c.nd (.inl rfl)) (pss_one' (ps_set' c (i := 7) (pv_call c (dk_plus T) (by decide) (pa_cons' (pv_var 7) (pa_cons' (pv_var 8) pa_nil'))) (.inl rfl))))
    (pss_one' (ps_append' (i := 5) (pv_var 7))))))
    (pss_one' (ps_ret' (pv_frz 5 (.inl rfl))))))))
theorem dk_need_state {F : Fx} {K : PySem.W.Frag} {mg : Str → Option Value} {P : Program} {w : World} {base : Heap} (T : Top F K mg) : DOk F P w K mg base "need_state" 6 2 (SpP F 2 g_need_state) := by
  obtain ⟨f, fd, Fu, gm⟩ := T.f_need_state
  refine ⟨⟨f, fd, _, fn_pure T.hF (body := b_need_state) Fu sc_need_state rfl (by decide) (fun cdv A outer s H E c => ?_) (fun ds _ => rfl), gm, Fu.kp, Fu.binds fun _ _ _ _ _ _ us hl => match us, hl with | [_, _], _ => rfl⟩, by decide⟩
  exact (pss_cons' (ps_expr' (pv_call c (dk_need_ladder T) (by decide) (pa_cons' (pv_var 0) pa_nil')))
    (pss_one' (ps_expr' (pv_call c (dk_need_whole T) (by decide) (pa_cons' (pv_var 1) (pa_cons' pv_int (pa_cons' (pv_ix c (pv_var 0) pv_int) pa_nil')))))))
theorem dk_mean_between {F : Fx} {K : PySem.W.Frag} {mg : Str → Option Value} {P : Program} {w : World} {base : Heap} (T : Top F K mg) : DOk F P w K mg base "mean_between" 7 3 (SpP F 3 g_mean_between) := by
  obtain ⟨f, fd, Fu, gm⟩ := T.f_mean_between
  refine ⟨⟨f, fd, _, fn_pure T.hF (body := b_mean_between) Fu sc_mean_between rfl (by decide) (fun cdv A outer s H E c => ?_) (fun ds _ => rfl), gm, Fu.kp, Fu.binds fun _ _ _ _ _ _ us hl => match us, hl with | [_, _, _], _ => rfl⟩, by decide⟩
  exact (pss_cons' (ps_expr' (pv_call c (dk_need_state T) (by decide) (pa_cons' (pv_var 0) (pa_cons' (pv_var 1) pa_nil'))))
    (pss_cons' (ps_expr' (pv_call c (dk_need_state T) (by decide) (pa_cons' (pv_var 0) (pa_cons' (pv_var 2) pa_nil'))))
    (pss_one' (ps_ret' (pv_ix c (pv_call c (dk_means_in T) (by decide) (pa_cons' (pv_var 0) (pa_cons' (pv_var 2) pa_nil'))) (pv_var 1))))))
theorem dk__law_cup {F : Fx} {K : PySem.W.Frag} {mg : Str → Option Value} {P : Program} {w : World} {base : Heap} (T : Top F K mg) : DOk F P w K mg base "_law_cup" 1 1 (SpN F 1 g__law_cup) := by
  obtain ⟨f, fd, Fu, gm⟩ := T.f__law_cup
  refine ⟨⟨f, fd, _, fn_new T.hF (f1 := b1__law_cup) (f2 := b2__law_cup) Fu sc__law_cup rfl (by decide) rfl (fun cdv A outer s H E c => ⟨?_, ?_⟩) (fun ds es _ h => ?_), gm, Fu.kp, Fu.binds fun _ _ _ _ _ _ us hl => match us, hl with | [_], _ => rfl⟩, by decide⟩
  · exact (ps_set' c (i := 1) (pv_abs T.z_abs (pa_cons' (pv_ix c (pv_add c (PN.pv (pn_list c T.z_list (pa_cons' (pv_var 0) pa_nil'))) (PN.pv (pn_lst (pa_cons' pv_int pa_nil')))) pv_int) pa_nil')) (.inl rfl))
  · exact (pn_lst (pa_cons' (pv_ifExp (pb_cmp cm_ge (pv_var 1) (pv_pow pv_int pv_int)) (pv_div (pv_var 1) pv_int) pv_int) (pa_cons' (pv_add c (pv_mod (pv_intc T.z_int (pa_cons' (pv_add c (pv_mul c (pv_var 1) pv_int) pv_int) pa_nil')) pv_int) pv_int) pa_nil')))
  · exact newRet h
theorem dk__law_roll {F : Fx} {K : PySem.W.Frag} {mg : Str → Option Value} {P : Program} {w : World} {base : Heap} (T : Top F K mg) : DOk F P w K mg base "_law_roll" 1 2 (SpC F 1 g__law_roll) := by
  obtain ⟨f, fd, Fu, gm⟩ := T.f__law_roll
  refine ⟨⟨f, fd, _, fn_cup T.hF (body := b__law_roll) Fu sc__law_roll rfl (by decide) (fun p cdv A outer s H E c => ?_) (fun cs ds _ => rfl), gm, Fu.kp, Fu.binds fun _ _ _ _ _ _ us hl => match us, hl with | [_, _], _ => rfl⟩, by decide⟩
  exact (pss_cons' (ps_if' (pb_cmp cm_gt (pv_ixV c 0 pv_int) pv_int) (pss_cons' (ps_set' c (i := 2) (pv_mod (pv_intc T.z_int (pa_cons' (pv_ixV c 0 pv_int) pa_nil')) (pv_var 1)) (.inr (by decide)))
    (pss_cons' (ps_setIx' (i := 0) (pv_div (pv_ixV c 0 pv_int) (pv_var 1)) pv_int)
    (pss_one' (ps_ret' (pv_var 2))))) pss_nil')
    (pss_cons' (ps_setIx' (i := 0) (pv_mod (pv_intc T.z_int (pa_cons' (pv_add c (pv_mul c (pv_ixV c 0 pv_int) pv_int) pv_int) pa_nil')) pv_int) pv_int)
    (pss_one' (ps_ret' (pv_mod (pv_intc T.z_int (pa_cons' (pv_div (pv_ixV c 0 pv_int) pv_int) pa_nil')) (pv_var 1))))))
theorem dk__law_low {F : Fx} {K : PySem.W.Frag} {mg : Str → Option Value} {P : Program} {w : World} {base : Heap} (T : Top F K mg) : DOk F P w K mg base "_law_low" 1 2 (SpP F 2 g__law_low) := by
  obtain ⟨f, fd, Fu, gm⟩ := T.f__law_low
  refine ⟨⟨f, fd, _, fn_pure T.hF (body := b__law_low) Fu sc__law_low rfl (by decide) (fun cdv A outer s H E c => ?_) (fun ds _ => rfl), gm, Fu.kp, Fu.binds fun _ _ _ _ _ _ us hl => match us, hl with | [_, _], _ => rfl⟩, by decide⟩
  exact (pss_cons' (ps_par2' c (i := 2) (j := 3) (psl_p (pv_abs T.z_abs (pa_cons' (pv_var 0) pa_nil'))) (psl_p (pv_abs T.z_abs (pa_cons' (pv_var 1) pa_nil'))) (.inl rfl) (.inl rfl) (by decide))
    (pss_cons' (ps_for' c (pit_range1 T.z_range (pa_cons' pv_int pa_nil')) (ptg_name (i := 4) c.nd (.inl rfl)) (pss_cons' (ps_if' (pb_cmp (cm_eq c) (pv_var 3) pv_int) (pss_one' (ps_ret' (pv_ifExp (pb_cmp cm_gt (pv_var 1) pv_int) (pv_tup (pa_cons' (pv_div (pv_var 0) (pv_var 2)) (pa_cons' (pv_div (pv_var 1) (pv_var 2)) pa_nil'))) (pv_tup (pa_cons' (pv_div (pv_neg (pv_var 0)) (pv_var 2)) (pa_cons' (pv_div (pv_neg (pv_var 1)) (pv_var 2)) pa_nil')))))) pss_nil')
    (pss_one' (ps_par2' c (i := 2) (j := 3) (psl_p (pv_var 3)) (psl_p (pv_mod (pv_intc T.z_int (pa_cons' (pv_var 2) pa_nil')) (pv_var 3))) (.inl rfl) (.inl rfl) (by decide)))))
    (pss_one' (ps_ret' (pv_tup (pa_cons' (pv_var 0) (pa_cons' (pv_var 1) pa_nil')))))))
theorem dk__law_times {F : Fx} {K : PySem.W.Frag} {mg : Str → Option Value} {P : Program} {w : World} {base : Heap} (T : Top F K mg) : DOk F P w K mg base "_law_times" 2 2 (SpP F 2 g__law_times) := by
  obtain ⟨f, fd, Fu, gm⟩ := T.f__law_times
  refine ⟨⟨f, fd, _, fn_pure T.hF (body := b__law_times) Fu sc__law_times rfl (by decide) (fun cdv A outer s H E c => ?_) (fun ds _ => rfl), gm, Fu.kp, Fu.binds fun _ _ _ _ _ _ us hl => match us, hl with | [_, _], _ => rfl⟩, by decide⟩
  exact (pss_one' (ps_ret' (pv_call c (dk__law_low T) (by decide) (pa_cons' (pv_mul c (pv_ix c (pv_var 0) pv_int) (pv_ix c (pv_var 1) pv_int)) (pa_cons' (pv_mul c (pv_ix c (pv_var 0) pv_int) (pv_ix c (pv_var 1) pv_int)) pa_nil')))))
theorem dk__law_less {F : Fx} {K : PySem.W.Frag} {mg : Str → Option Value} {P : Program} {w : World} {base : Heap} (T : Top F K mg) : DOk F P w K mg base "_law_less" 2 2 (SpP F 2 g__law_less) := by
  obtain ⟨f, fd, Fu, gm⟩ := T.f__law_less
  refine ⟨⟨f, fd, _, fn_pure T.hF (body := b__law_less) Fu sc__law_less rfl (by decide) (fun cdv A outer s H E c => ?_) (fun ds _ => rfl), gm, Fu.kp, Fu.binds fun _ _ _ _ _ _ us hl => match us, hl with | [_, _], _ => rfl⟩, by decide⟩
  exact (pss_one' (ps_ret' (pv_call c (dk__law_low T) (by decide) (pa_cons' (pv_sub (pv_mul c (pv_ix c (pv_var 0) pv_int) (pv_ix c (pv_var 1) pv_int)) (pv_mul c (pv_ix c (pv_var 1) pv_int) (pv_ix c (pv_var 0) pv_int))) (pa_cons' (pv_mul c (pv_ix c (pv_var 0) pv_int) (pv_ix c (pv_var 1) pv_int)) pa_nil')))))
theorem dk__law_ladder_right {F : Fx} {K : PySem.W.Frag} {mg : Str → Option Value} {P : Program} {w : World} {base : Heap} (T : Top F K mg) : DOk F P w K mg base "_law_ladder_right" 7 3 (SpP F 3 g__law_ladder_right) := by
  obtain ⟨f, fd, Fu, gm⟩ := T.f__law_ladder_right
  refine ⟨⟨f, fd, _, fn_pure T.hF (body := b__law_ladder_right) Fu sc__law_ladder_right rfl (by decide) (fun cdv A outer s H E c => ?_) (fun ds _ => rfl), gm, Fu.kp, Fu.binds fun _ _ _ _ _ _ us hl => match us, hl with | [_, _, _], _ => rfl⟩, by decide⟩
  exact (pss_cons' (ps_tg' (pv_tup (pa_cons' (pv_tup (pa_cons' (pv_var 0) (pa_cons' (pv_var 0) (pa_cons' (pv_var 1) (pa_cons' (pv_var 2) pa_nil'))))) (pa_cons' (pv_call c (dk_long_share T) (by decide) (pa_cons' (pv_tup (pa_cons' (pv_var 1) (pa_cons' (pv_var 2) pa_nil'))) pa_nil')) pa_nil'))) (ptg_tup c (ptgs_cons (ptg_name (i := 3) c.nd (.inl rfl)) (ptgs_cons (ptg_name (i := 4) c.nd (.inl rfl)) ptgs_nil))))
    (pss_cons' (ps_set' c (i := 5) (pv_mul c (pv_tup (pa_cons' (pv_var 4) pa_nil')) (pv_var 0)) (.inl rfl))
    (pss_cons' (ps_if' (PBW.pb (pb_or (pb_cmp (cm_ne c) (pv_call c (dk_ladder_shares T) (by decide) (pa_cons' (pv_var 3) pa_nil')) (pv_call c (dk_count_chances T) (by decide) (pa_cons' (pv_var 5) pa_nil'))) (pb_or1 (pb_cmp (cm_ne c) (pv_call c (dk_mean_up T) (by decide) (pa_cons' (pv_var 3) pa_nil')) (pv_call c (dk_mean_good T) (by decide) (pa_cons' (pv_var 5) pa_nil')))))) (pss_one' (ps_ret' pv_bl)) pss_nil')
    (pss_one' (ps_ret' (pv_cmp (cm_eq c) (PN.pv (pn_lc (own := [("need", 6)]) c (pit_range1 T.z_range (pa_cons' pv_int pa_nil')) (by rfl) (fun _ _ _ _ _ c' => (ptg_name (i := 6) c'.nd (.inl rfl))) (fun _ _ _ _ _ c' => (pts_one' (pb_cmp (cm_ne c') (pv_call c' (dk_share_from T) (by decide) (pa_cons' (pv_var 3) (pa_cons' (pv_var 6) pa_nil'))) (pv_call c' (dk_at_least T) (by decide) (pa_cons' (pv_var 5) (pa_cons' (pv_var 6) pa_nil')))))) (fun _ _ _ _ _ c' => (pv_var 6)) (.inl rfl) (by decide))) (PN.pv (pn_lst pa_nil'))))))))
theorem dk__law_few_right {F : Fx} {K : PySem.W.Frag} {mg : Str → Option Value} {P : Program} {w : World} {base : Heap} (T : Top F K mg) : DOk F P w K mg base "_law_few_right" 8 4 (SpP F 4 g__law_few_right) := by
  obtain ⟨f, fd, Fu, gm⟩ := T.f__law_few_right
  refine ⟨⟨f, fd, _, fn_pure T.hF (body := b__law_few_right) Fu sc__law_few_right rfl (by decide) (fun cdv A outer s H E c => ?_) (fun ds _ => rfl), gm, Fu.kp, Fu.binds fun _ _ _ _ _ _ us hl => match us, hl with | [_, _, _, _], _ => rfl⟩, by decide⟩
  exact (pss_cons' (ps_par2' c (i := 4) (j := 5) (psl_p (pv_tup (pa_cons' (pv_var 0) (pa_cons' (pv_var 1) (pa_cons' (pv_var 2) (pa_cons' (pv_var 3) pa_nil')))))) (psl_p (pv_tup (pa_cons' (pv_var 0) (pa_cons' (pv_var 0) (pa_cons' (pv_var 2) (pa_cons' (pv_var 3) pa_nil')))))) (.inl rfl) (.inl rfl) (by decide))
    (pss_cons' (ps_if' (PBW.pb (pb_or (pb_cmp cm_lt (pv_ix c (pv_call c (dk__law_less T) (by decide) (pa_cons' (pv_call c (dk_mean_up T) (by decide) (pa_cons' (pv_var 5) pa_nil')) (pa_cons' (pv_call c (dk_mean_up T) (by decide) (pa_cons' (pv_var 4) pa_nil')) pa_nil'))) pv_int) pv_int) (pb_or1 (pb_cmp (cm_ne c) (pv_cmp (cm_eq c) (pv_call c (dk_mean_up T) (by decide) (pa_cons' (pv_var 5) pa_nil')) (pv_call c (dk_mean_up T) (by decide) (pa_cons' (pv_var 4) pa_nil'))) (pv_cmp (cm_eq c) (pv_var 1) (pv_var 0)))))) (pss_one' (ps_ret' pv_bl)) pss_nil')
    (pss_cons' (ps_set' c (i := 6) (pv_ix c (pv_ix c (pv_call c (dk_flows_of T) (by decide) (pa_cons' (pv_var 5) pa_nil')) pv_int) pv_int) (.inl rfl))
    (pss_one' (ps_ret' (pv_cmp (cm_eq c) (pv_call c (dk__law_times T) (by decide) (pa_cons' (pv_call c (dk_mean_between T) (by decide) (pa_cons' (pv_var 5) (pa_cons' pv_int (pa_cons' pv_int pa_nil')))) (pa_cons' (pv_var 6) pa_nil'))) (pv_tup (pa_cons' pv_int (pa_cons' pv_int pa_nil')))))))))
theorem dk__law_spares_right {F : Fx} {K : PySem.W.Frag} {mg : Str → Option Value} {P : Program} {w : World} {base : Heap} (T : Top F K mg) : DOk F P w K mg base "_law_spares_right" 9 3 (SpP F 3 g__law_spares_right) := by
  obtain ⟨f, fd, Fu, gm⟩ := T.f__law_spares_right
  refine ⟨⟨f, fd, _, fn_pure T.hF (body := b__law_spares_right) Fu sc__law_spares_right rfl (by decide) (fun cdv A outer s H E c => ?_) (fun ds _ => rfl), gm, Fu.kp, Fu.binds fun _ _ _ _ _ _ us hl => match us, hl with | [_, _, _], _ => rfl⟩, by decide⟩
  exact (pss_cons' (ps_par2' c (i := 3) (j := 4) (psl_p (pv_tup (pa_cons' (pv_var 0) (pa_cons' (pv_var 1) (pa_cons' (pv_tup (pa_cons' pv_int (pa_cons' pv_int pa_nil'))) pa_nil'))))) (psl_p (pv_call c (dk__law_less T) (by decide) (pa_cons' (pv_tup (pa_cons' pv_int (pa_cons' pv_int pa_nil'))) (pa_cons' (pv_var 1) pa_nil')))) (.inl rfl) (.inl rfl) (by decide))
    (pss_cons' (ps_set' c (i := 5) (pv_mul c (pv_tup (pa_cons' (pv_var 4) pa_nil')) (pv_var 2)) (.inl rfl))
    (pss_cons' (ps_set' c (i := 6) (pv_ifExp (pb_cmp cm_gt (pv_var 2) (pv_var 0)) (pv_sub (pv_var 2) (pv_var 0)) pv_int) (.inl rfl))
    (pss_cons' (ps_if' (PBW.pb (pb_or (pb_cmp (cm_ne c) (pv_call c (dk_last_chance T) (by decide) (pa_cons' (pv_var 3) (pa_cons' (pv_var 2) pa_nil'))) (pv_call c (dk_at_least T) (by decide) (pa_cons' (pv_var 5) (pa_cons' (pv_var 6) pa_nil')))) (pb_or1 (pb_cmp (cm_ne c) (pv_call c (dk_last_chance T) (by decide) (pa_cons' (pv_var 3) (pa_cons' (pv_var 2) pa_nil'))) (pv_call c (dk_at_least_alike T) (by decide) (pa_cons' (pv_var 4) (pa_cons' (pv_var 2) (pa_cons' (pv_var 6) pa_nil')))))))) (pss_one' (ps_ret' pv_bl)) pss_nil')
    (pss_cons' (ps_par2' c (i := 7) (j := 8) (psl_p (pv_call c (dk_count_chances T) (by decide) (pa_cons' (pv_var 5) pa_nil'))) (psl_p (pv_call c (dk_good_chances T) (by decide) (pa_cons' (pv_var 3) (pa_cons' (pv_var 2) pa_nil')))) (.inl rfl) (.inl rfl) (by decide))
    (pss_cons' (ps_for' c (pit_range1 T.z_range (pa_cons' (pv_add c (pv_var 0) pv_int) pa_nil')) (ptg_name (i := 9) c.nd (.inl rfl)) (pss_cons' (ps_set' c (i := 10) (pv_ifExp (pb_cmp cm_ge (pv_add c (pv_sub (pv_var 2) (pv_var 0)) (pv_var 9)) pv_int) (pv_ix c (pv_var 7) (pv_add c (pv_sub (pv_var 2) (pv_var 0)) (pv_var 9))) (pv_tup (pa_cons' pv_int (pa_cons' pv_int pa_nil')))) (.inl rfl))
    (pss_one' (ps_if' (pb_cmp (cm_ne c) (pv_ix c (pv_var 8) (pv_var 9)) (pv_var 10)) (pss_one' (ps_ret' pv_bl)) pss_nil'))))
    (pss_one' (ps_ret' pv_bl))))))))
theorem dk__law_needed_right {F : Fx} {K : PySem.W.Frag} {mg : Str → Option Value} {P : Program} {w : World} {base : Heap} (T : Top F K mg) : DOk F P w K mg base "_law_needed_right" 9 3 (SpP F 3 g__law_needed_right) := by
  obtain ⟨f, fd, Fu, gm⟩ := T.f__law_needed_right
  refine ⟨⟨f, fd, _, fn_pure T.hF (body := b__law_needed_right) Fu sc__law_needed_right rfl (by decide) (fun cdv A outer s H E c => ?_) (fun ds _ => rfl), gm, Fu.kp, Fu.binds fun _ _ _ _ _ _ us hl => match us, hl with | [_, _, _], _ => rfl⟩, by decide⟩
  exact (pss_cons' (ps_set' c (i := 3) (pv_mul c (pv_tup (pa_cons' (pv_call c (dk__law_less T) (by decide) (pa_cons' (pv_tup (pa_cons' pv_int (pa_cons' pv_int pa_nil'))) (pa_cons' (pv_var 0) pa_nil'))) pa_nil')) (pv_var 1)) (.inl rfl))
    (pss_cons' (ps_setLc' (i := 4) (own := [("s", 5)]) c (pit_range1 T.z_range (pa_cons' pv_int pa_nil')) (by rfl) (fun _ _ _ _ _ c' => (ptg_name (i := 5) c'.nd (.inl rfl))) (fun _ _ _ _ _ c' => (pts_one' (pb_cmp cm_ge (pv_ix c' (pv_call c' (dk__law_less T) (by decide) (pa_cons' (pv_call c' (dk_at_least T) (by decide) (pa_cons' (pv_var 3) (pa_cons' (pv_ifExp (pb_cmp cm_gt (pv_var 1) (pv_var 5)) (pv_sub (pv_var 1) (pv_var 5)) pv_int) pa_nil'))) (pa_cons' (pv_var 2) pa_nil'))) pv_int) pv_int))) (fun _ _ _ _ _ c' => (pv_var 5)) (.inl rfl) (by decide) (.inl rfl))
    (pss_one' (ps_ret' (pv_cmp (cm_eq c) (pv_call c (dk_spares_needed T) (by decide) (pa_cons' (pv_var 0) (pa_cons' (pv_tup (pa_cons' pv_int (pa_cons' pv_int pa_nil'))) (pa_cons' (pv_var 1) (pa_cons' (pv_var 2) pa_nil'))))) (pv_ifExp (pb_cmp (cm_ne c) (pv_var 4) (PN.pv (pn_lst pa_nil'))) (pv_ix c (pv_var 4) pv_int) pv_non))))))
theorem ok_law {F : Fx} {K : PySem.W.Frag} {mg : Str → Option Value} {P : Program} {w : World} {base : Heap} (T : Top F K mg) (hlaw : ∀ ns : List Int, ns.length ≤ 63 → g_law [.scr ns] = .ok (.bl true)) {f : Addr} {fd : FuncData} (Fu : Fun K "law" "law" s_law f fd) : FnOk P w K mg base (L2.CX P w) 10 f fd ["script"] (spL K) :=
  fn_law T.hF T.hT (body := b_law) Fu sc_law rfl (by decide) (fun cdv A outer s H E c => (pss_cons' (ps_own' c (i := 1) (pn_call c (dk__law_cup T) (by decide) (pa_cons' (pv_var 0) pa_nil')) (.inl rfl))
    (pss_cons' (ps_for' c (pit_range1 T.z_range (pa_cons' pv_int pa_nil')) (ptg_name (i := 2) c.nd (.inl rfl)) (pss_cons' (ps_set' c (i := 3) (pv_add c pv_int (pv_callC c 1 (dk__law_roll T) (by decide) (pa_cons' pv_int pa_nil'))) (.inl rfl))
    (pss_cons' (ps_set' c (i := 4) (pv_call c (dk__law_low T) (by decide) (pa_cons' (pv_add c pv_int (pv_callC c 1 (dk__law_roll T) (by decide) (pa_cons' pv_int pa_nil'))) (pa_cons' (pv_add c pv_int (pv_callC c 1 (dk__law_roll T) (by decide) (pa_cons' pv_int pa_nil'))) pa_nil'))) (.inl rfl))
    (pss_cons' (ps_set' c (i := 5) (pv_call c (dk__law_low T) (by decide) (pa_cons' (pv_add c pv_int (pv_callC c 1 (dk__law_roll T) (by decide) (pa_cons' pv_int pa_nil'))) (pa_cons' (pv_add c pv_int (pv_callC c 1 (dk__law_roll T) (by decide) (pa_cons' pv_int pa_nil'))) pa_nil'))) (.inl rfl))
    (pss_cons' (ps_if' (PBW.pb (pb_or (pb_not (pb_val (pv_call c (dk__law_ladder_right T) (by decide) (pa_cons' (pv_var 3) (pa_cons' (pv_var 4) (pa_cons' (pv_var 5) pa_nil')))))) (pb_or1 (pb_not (pb_val (pv_call c (dk__law_few_right T) (by decide) (pa_cons' (pv_var 3) (pa_cons' (pv_add c pv_int (pv_callC c 1 (dk__law_roll T) (by decide) (pa_cons' (pv_var 3) pa_nil'))) (pa_cons' (pv_var 4) (pa_cons' (pv_var 5) pa_nil')))))))))) (pss_one' (ps_ret' pv_bl)) pss_nil')
    (pss_cons' (ps_set' c (i := 6) (pv_callC c 1 (dk__law_roll T) (by decide) (pa_cons' pv_int pa_nil')) (.inl rfl))
    (pss_cons' (ps_if' (pb_not (pb_val (pv_call c (dk__law_spares_right T) (by decide) (pa_cons' (pv_callC c 1 (dk__law_roll T) (by decide) (pa_cons' pv_int pa_nil')) (pa_cons' (pv_var 4) (pa_cons' (pv_var 6) pa_nil')))))) (pss_one' (ps_ret' pv_bl)) pss_nil')
    (pss_one' (ps_if' (pb_not (pb_val (pv_call c (dk__law_needed_right T) (by decide) (pa_cons' (pv_var 4) (pa_cons' (pv_var 6) (pa_cons' (pv_call c (dk__law_low T) (by decide) (pa_cons' (pv_callC c 1 (dk__law_roll T) (by decide) (pa_cons' pv_int pa_nil')) (pa_cons' pv_int pa_nil'))) pa_nil')))))) (pss_one' (ps_ret' pv_bl)) pss_nil')))))))))
    (pss_cons' (ps_set' c (i := 7) (PN.pv (pn_lst (pa_cons' (pv_call c (dk_ladder_shares T) (by decide) (pa_cons' (pv_tup (pa_cons' pv_int (pa_cons' pv_int (pa_cons' (pv_tup (pa_cons' pv_int (pa_cons' pv_int pa_nil'))) (pa_cons' (pv_tup (pa_cons' pv_int (pa_cons' pv_int pa_nil'))) pa_nil'))))) pa_nil')) (pa_cons' (pv_call c (dk_mean_up T) (by decide) (pa_cons' (pv_tup (pa_cons' pv_int (pa_cons' pv_int (pa_cons' (pv_tup (pa_cons' pv_int (pa_cons' pv_int pa_nil'))) (pa_cons' (pv_tup (pa_cons' pv_int (pa_cons' pv_int pa_nil'))) pa_nil'))))) pa_nil')) pa_nil')))) (.inl rfl))
    (pss_cons' (ps_set' c (i := 7) (pv_add c (pv_var 7) (PN.pv (pn_lst (pa_cons' (pv_call c (dk_last_chance T) (by decide) (pa_cons' (pv_tup (pa_cons' pv_int (pa_cons' (pv_tup (pa_cons' pv_int (pa_cons' pv_int pa_nil'))) (pa_cons' (pv_tup (pa_cons' pv_int (pa_cons' pv_int pa_nil'))) pa_nil')))) (pa_cons' pv_int pa_nil'))) (pa_cons' (pv_call c (dk_good_chances T) (by decide) (pa_cons' (pv_tup (pa_cons' pv_int (pa_cons' (pv_tup (pa_cons' pv_int (pa_cons' pv_int pa_nil'))) (pa_cons' (pv_tup (pa_cons' pv_int (pa_cons' pv_int pa_nil'))) pa_nil')))) (pa_cons' pv_int pa_nil'))) pa_nil'))))) (.inl rfl))
    (pss_cons' (ps_if' (pb_cmp (cm_ne c) (pv_var 7) (PN.pv (pn_lst (pa_cons' (pv_tup (pa_cons' (pv_tup (pa_cons' pv_int (pa_cons' pv_int pa_nil'))) (pa_cons' (pv_tup (pa_cons' pv_int (pa_cons' pv_int pa_nil'))) (pa_cons' (pv_tup (pa_cons' pv_int (pa_cons' pv_int pa_nil'))) (pa_cons' (pv_tup (pa_cons' pv_int (pa_cons' pv_int pa_nil'))) pa_nil'))))) (pa_cons' (pv_tup (pa_cons' pv_int (pa_cons' pv_int pa_nil'))) (pa_cons' (pv_tup (pa_cons' pv_int (pa_cons' pv_int pa_nil'))) (pa_cons' (pv_tup (pa_cons' (pv_tup (pa_cons' pv_int (pa_cons' pv_int pa_nil'))) (pa_cons' (pv_tup (pa_cons' pv_int (pa_cons' pv_int pa_nil'))) (pa_cons' (pv_tup (pa_cons' pv_int (pa_cons' pv_int pa_nil'))) pa_nil')))) pa_nil'))))))) (pss_one' (ps_ret' pv_bl)) pss_nil')
    (pss_cons' (ps_for' c (pit_seq c (pv_tup (pa_cons' (pv_tup (pa_cons' pv_int (pa_cons' (pv_tup (pa_cons' pv_int (pa_cons' pv_int pa_nil'))) (pa_cons' (pv_tup (pa_cons' pv_int (pa_cons' pv_int pa_nil'))) pa_nil')))) (pa_cons' (pv_tup (pa_cons' pv_int (pa_cons' (pv_tup (pa_cons' pv_int (pa_cons' pv_int pa_nil'))) (pa_cons' (pv_tup (pa_cons' pv_int (pa_cons' pv_int pa_nil'))) pa_nil')))) (pa_cons' (pv_tup (pa_cons' pv_int (pa_cons' (pv_tup (pa_cons' pv_int (pa_cons' pv_int pa_nil'))) (pa_cons' (pv_tup (pa_cons' pv_int (pa_cons' pv_int pa_nil'))) pa_nil')))) (pa_cons' (pv_tup (pa_cons' pv_int (pa_cons' (pv_tup (pa_cons' pv_int (pa_cons' pv_int pa_nil'))) (pa_cons' (pv_tup (pa_cons' pv_int (pa_cons' pv_int pa_nil'))) pa_nil')))) pa_nil')))))) (ptg_tup c (ptgs_cons (ptg_name (i := 3) c.nd (.inl rfl)) (ptgs_cons (ptg_name (i := 4) c.nd (.inl rfl)) (ptgs_cons (ptg_name (i := 5) c.nd (.inl rfl)) ptgs_nil)))) (pss_one' (ps_if' (PBW.pb (pb_or (pb_not (pb_val (pv_call c (dk__law_ladder_right T) (by decide) (pa_cons' (pv_var 3) (pa_cons' (pv_var 4) (pa_cons' (pv_var 5) pa_nil')))))) (pb_or1 (pb_not (pb_val (pv_call c (dk__law_few_right T) (by decide) (pa_cons' (pv_var 3) (pa_cons' pv_int (pa_cons' (pv_var 4) (pa_cons' (pv_var 5) pa_nil')))))))))) (pss_one' (ps_ret' pv_bl)) pss_nil')))
    (pss_cons' (ps_for' c (pit_seq c (pv_tup (pa_cons' (pv_tup (pa_cons' pv_int (pa_cons' (pv_tup (pa_cons' pv_int (pa_cons' pv_int pa_nil'))) (pa_cons' pv_int pa_nil')))) (pa_cons' (pv_tup (pa_cons' pv_int (pa_cons' (pv_tup (pa_cons' pv_int (pa_cons' pv_int pa_nil'))) (pa_cons' pv_int pa_nil')))) (pa_cons' (pv_tup (pa_cons' pv_int (pa_cons' (pv_tup (pa_cons' pv_int (pa_cons' pv_int pa_nil'))) (pa_cons' pv_int pa_nil')))) (pa_cons' (pv_tup (pa_cons' pv_int (pa_cons' (pv_tup (pa_cons' pv_int (pa_cons' pv_int pa_nil'))) (pa_cons' pv_int pa_nil')))) (pa_cons' (pv_tup (pa_cons' pv_int (pa_cons' (pv_tup (pa_cons' pv_int (pa_cons' pv_int pa_nil'))) (pa_cons' pv_int pa_nil')))) (pa_cons' (pv_tup (pa_cons' pv_int (pa_cons' (pv_tup (pa_cons' pv_int (pa_cons' pv_int pa_nil'))) (pa_cons' pv_int pa_nil')))) pa_nil')))))))) (ptg_tup c (ptgs_cons (ptg_name (i := 8) c.nd (.inl rfl)) (ptgs_cons (ptg_name (i := 4) c.nd (.inl rfl)) (ptgs_cons (ptg_name (i := 6) c.nd (.inl rfl)) ptgs_nil)))) (pss_one' (ps_if' (PBW.pb (pb_or (pb_not (pb_val (pv_call c (dk__law_spares_right T) (by decide) (pa_cons' (pv_var 8) (pa_cons' (pv_var 4) (pa_cons' (pv_var 6) pa_nil')))))) (pb_or1 (pb_not (pb_val (pv_call c (dk__law_needed_right T) (by decide) (pa_cons' (pv_var 4) (pa_cons' (pv_var 6) (pa_cons' (pv_tup (pa_cons' pv_int (pa_cons' pv_int pa_nil'))) pa_nil'))))))))) (pss_one' (ps_ret' pv_bl)) pss_nil')))
    (pss_one' (ps_ret' pv_bl)))))))))) hlaw
theorem all_mk (hlaw : ∀ ns : List Int, ns.length ≤ 63 → g_law [.scr ns] = .ok (.bl true)) {P : Program} {w : World} {K : PySem.W.Frag} {h : Heap} {mg : Str → Option Value} {fa : Addr} (X : K.In h) (G : h.Ns mainGlobals mg) (hfa : mg "law" = some (.ref fa))
    {u0 : Addr} {od0 an0 : Option Addr} {sl0 : Array (Option Value)} {oc0 kV0 dc0 pm0 cd0 ct0 : Value} (a0 : PySem.W.nsIn K mainGlobals "is_whole" = some (some (.ref u0))) (l0 : K.lookup u0 = some ⟨oc0, od0, .func (PySem.W.fnOf "is_whole" "is_whole" (defArgs s_is_whole) (defBody s_is_whole) (defScope s_is_whole) .none kV0 dc0 pm0 an0 cd0 ct0), sl0⟩) (c0 : PySem.W.codeIn K cd0 "is_whole" = true) (k0 : PySem.W.keepIn K (.ref u0) = true)
    {u1 : Addr} {od1 an1 : Option Addr} {sl1 : Array (Option Value)} {oc1 kV1 dc1 pm1 cd1 ct1 : Value} (a1 : PySem.W.nsIn K mainGlobals "need_whole" = some (some (.ref u1))) (l1 : K.lookup u1 = some ⟨oc1, od1, .func (PySem.W.fnOf "need_whole" "need_whole" (defArgs s_need_whole) (defBody s_need_whole) (defScope s_need_whole) .none kV1 dc1 pm1 an1 cd1 ct1), sl1⟩) (c1 : PySem.W.codeIn K cd1 "need_whole" = true) (k1 : PySem.W.keepIn K (.ref u1) = true)
    {u2 : Addr} {od2 an2 : Option Addr} {sl2 : Array (Option Value)} {oc2 kV2 dc2 pm2 cd2 ct2 : Value} (a2 : PySem.W.nsIn K mainGlobals "is_tuple_of" = some (some (.ref u2))) (l2 : K.lookup u2 = some ⟨oc2, od2, .func (PySem.W.fnOf "is_tuple_of" "is_tuple_of" (defArgs s_is_tuple_of) (defBody s_is_tuple_of) (defScope s_is_tuple_of) .none kV2 dc2 pm2 an2 cd2 ct2), sl2⟩) (c2 : PySem.W.codeIn K cd2 "is_tuple_of" = true) (k2 : PySem.W.keepIn K (.ref u2) = true)
    {u3 : Addr} {od3 an3 : Option Addr} {sl3 : Array (Option Value)} {oc3 kV3 dc3 pm3 cd3 ct3 : Value} (a3 : PySem.W.nsIn K mainGlobals "is_portion" = some (some (.ref u3))) (l3 : K.lookup u3 = some ⟨oc3, od3, .func (PySem.W.fnOf "is_portion" "is_portion" (defArgs s_is_portion) (defBody s_is_portion) (defScope s_is_portion) .none kV3 dc3 pm3 an3 cd3 ct3), sl3⟩) (c3 : PySem.W.codeIn K cd3 "is_portion" = true) (k3 : PySem.W.keepIn K (.ref u3) = true)
    {u4 : Addr} {od4 an4 : Option Addr} {sl4 : Array (Option Value)} {oc4 kV4 dc4 pm4 cd4 ct4 : Value} (a4 : PySem.W.nsIn K mainGlobals "lowest" = some (some (.ref u4))) (l4 : K.lookup u4 = some ⟨oc4, od4, .func (PySem.W.fnOf "lowest" "lowest" (defArgs s_lowest) (defBody s_lowest) (defScope s_lowest) .none kV4 dc4 pm4 an4 cd4 ct4), sl4⟩) (c4 : PySem.W.codeIn K cd4 "lowest" = true) (k4 : PySem.W.keepIn K (.ref u4) = true)
    {u5 : Addr} {od5 an5 : Option Addr} {sl5 : Array (Option Value)} {oc5 kV5 dc5 pm5 cd5 ct5 : Value} (a5 : PySem.W.nsIn K mainGlobals "plus" = some (some (.ref u5))) (l5 : K.lookup u5 = some ⟨oc5, od5, .func (PySem.W.fnOf "plus" "plus" (defArgs s_plus) (defBody s_plus) (defScope s_plus) .none kV5 dc5 pm5 an5 cd5 ct5), sl5⟩) (c5 : PySem.W.codeIn K cd5 "plus" = true) (k5 : PySem.W.keepIn K (.ref u5) = true)
    {u6 : Addr} {od6 an6 : Option Addr} {sl6 : Array (Option Value)} {oc6 kV6 dc6 pm6 cd6 ct6 : Value} (a6 : PySem.W.nsIn K mainGlobals "times" = some (some (.ref u6))) (l6 : K.lookup u6 = some ⟨oc6, od6, .func (PySem.W.fnOf "times" "times" (defArgs s_times) (defBody s_times) (defScope s_times) .none kV6 dc6 pm6 an6 cd6 ct6), sl6⟩) (c6 : PySem.W.codeIn K cd6 "times" = true) (k6 : PySem.W.keepIn K (.ref u6) = true)
    {u7 : Addr} {od7 an7 : Option Addr} {sl7 : Array (Option Value)} {oc7 kV7 dc7 pm7 cd7 ct7 : Value} (a7 : PySem.W.nsIn K mainGlobals "lead" = some (some (.ref u7))) (l7 : K.lookup u7 = some ⟨oc7, od7, .func (PySem.W.fnOf "lead" "lead" (defArgs s_lead) (defBody s_lead) (defScope s_lead) .none kV7 dc7 pm7 an7 cd7 ct7), sl7⟩) (c7 : PySem.W.codeIn K cd7 "lead" = true) (k7 : PySem.W.keepIn K (.ref u7) = true)
    {u8 : Addr} {od8 an8 : Option Addr} {sl8 : Array (Option Value)} {oc8 kV8 dc8 pm8 cd8 ct8 : Value} (a8 : PySem.W.nsIn K mainGlobals "is_small" = some (some (.ref u8))) (l8 : K.lookup u8 = some ⟨oc8, od8, .func (PySem.W.fnOf "is_small" "is_small" (defArgs s_is_small) (defBody s_is_small) (defScope s_is_small) .none kV8 dc8 pm8 an8 cd8 ct8), sl8⟩) (c8 : PySem.W.codeIn K cd8 "is_small" = true) (k8 : PySem.W.keepIn K (.ref u8) = true)
    {u9 : Addr} {od9 an9 : Option Addr} {sl9 : Array (Option Value)} {oc9 kV9 dc9 pm9 cd9 ct9 : Value} (a9 : PySem.W.nsIn K mainGlobals "need_small" = some (some (.ref u9))) (l9 : K.lookup u9 = some ⟨oc9, od9, .func (PySem.W.fnOf "need_small" "need_small" (defArgs s_need_small) (defBody s_need_small) (defScope s_need_small) .none kV9 dc9 pm9 an9 cd9 ct9), sl9⟩) (c9 : PySem.W.codeIn K cd9 "need_small" = true) (k9 : PySem.W.keepIn K (.ref u9) = true)
    {u10 : Addr} {od10 an10 : Option Addr} {sl10 : Array (Option Value)} {oc10 kV10 dc10 pm10 cd10 ct10 : Value} (a10 : PySem.W.nsIn K mainGlobals "rest_of_mendedparts" = some (some (.ref u10))) (l10 : K.lookup u10 = some ⟨oc10, od10, .func (PySem.W.fnOf "rest_of" "rest_of" (defArgs s_rest_of_mendedparts) (defBody s_rest_of_mendedparts) (defScope s_rest_of_mendedparts) .none kV10 dc10 pm10 an10 cd10 ct10), sl10⟩) (c10 : PySem.W.codeIn K cd10 "rest_of" = true) (k10 : PySem.W.keepIn K (.ref u10) = true)
    {u11 : Addr} {od11 an11 : Option Addr} {sl11 : Array (Option Value)} {oc11 kV11 dc11 pm11 cd11 ct11 : Value} (a11 : PySem.W.nsIn K mainGlobals "quotient" = some (some (.ref u11))) (l11 : K.lookup u11 = some ⟨oc11, od11, .func (PySem.W.fnOf "quotient" "quotient" (defArgs s_quotient) (defBody s_quotient) (defScope s_quotient) .none kV11 dc11 pm11 an11 cd11 ct11), sl11⟩) (c11 : PySem.W.codeIn K cd11 "quotient" = true) (k11 : PySem.W.keepIn K (.ref u11) = true)
    {u12 : Addr} {od12 an12 : Option Addr} {sl12 : Array (Option Value)} {oc12 kV12 dc12 pm12 cd12 ct12 : Value} (a12 : PySem.W.nsIn K mainGlobals "fits_mendedparts" = some (some (.ref u12))) (l12 : K.lookup u12 = some ⟨oc12, od12, .func (PySem.W.fnOf "fits" "fits" (defArgs s_fits_mendedparts) (defBody s_fits_mendedparts) (defScope s_fits_mendedparts) .none kV12 dc12 pm12 an12 cd12 ct12), sl12⟩) (c12 : PySem.W.codeIn K cd12 "fits" = true) (k12 : PySem.W.keepIn K (.ref u12) = true)
    {u13 : Addr} {od13 an13 : Option Addr} {sl13 : Array (Option Value)} {oc13 kV13 dc13 pm13 cd13 ct13 : Value} (a13 : PySem.W.nsIn K mainGlobals "need_part" = some (some (.ref u13))) (l13 : K.lookup u13 = some ⟨oc13, od13, .func (PySem.W.fnOf "need_part" "need_part" (defArgs s_need_part) (defBody s_need_part) (defScope s_need_part) .none kV13 dc13 pm13 an13 cd13 ct13), sl13⟩) (c13 : PySem.W.codeIn K cd13 "need_part" = true) (k13 : PySem.W.keepIn K (.ref u13) = true)
    {u14 : Addr} {od14 an14 : Option Addr} {sl14 : Array (Option Value)} {oc14 kV14 dc14 pm14 cd14 ct14 : Value} (a14 : PySem.W.nsIn K mainGlobals "long_in" = some (some (.ref u14))) (l14 : K.lookup u14 = some ⟨oc14, od14, .func (PySem.W.fnOf "long_in" "long_in" (defArgs s_long_in) (defBody s_long_in) (defScope s_long_in) .none kV14 dc14 pm14 an14 cd14 ct14), sl14⟩) (c14 : PySem.W.codeIn K cd14 "long_in" = true) (k14 : PySem.W.keepIn K (.ref u14) = true)
    {u15 : Addr} {od15 an15 : Option Addr} {sl15 : Array (Option Value)} {oc15 kV15 dc15 pm15 cd15 ct15 : Value} (a15 : PySem.W.nsIn K mainGlobals "long_share" = some (some (.ref u15))) (l15 : K.lookup u15 = some ⟨oc15, od15, .func (PySem.W.fnOf "long_share" "long_share" (defArgs s_long_share) (defBody s_long_share) (defScope s_long_share) .none kV15 dc15 pm15 an15 cd15 ct15), sl15⟩) (c15 : PySem.W.codeIn K cd15 "long_share" = true) (k15 : PySem.W.keepIn K (.ref u15) = true)
    {u16 : Addr} {od16 an16 : Option Addr} {sl16 : Array (Option Value)} {oc16 kV16 dc16 pm16 cd16 ct16 : Value} (a16 : PySem.W.nsIn K mainGlobals "are_rates" = some (some (.ref u16))) (l16 : K.lookup u16 = some ⟨oc16, od16, .func (PySem.W.fnOf "are_rates" "are_rates" (defArgs s_are_rates) (defBody s_are_rates) (defScope s_are_rates) .none kV16 dc16 pm16 an16 cd16 ct16), sl16⟩) (c16 : PySem.W.codeIn K cd16 "are_rates" = true) (k16 : PySem.W.keepIn K (.ref u16) = true)
    {u17 : Addr} {od17 an17 : Option Addr} {sl17 : Array (Option Value)} {oc17 kV17 dc17 pm17 cd17 ct17 : Value} (a17 : PySem.W.nsIn K mainGlobals "fits_waitingspares" = some (some (.ref u17))) (l17 : K.lookup u17 = some ⟨oc17, od17, .func (PySem.W.fnOf "fits" "fits" (defArgs s_fits_waitingspares) (defBody s_fits_waitingspares) (defScope s_fits_waitingspares) .none kV17 dc17 pm17 an17 cd17 ct17), sl17⟩) (c17 : PySem.W.codeIn K cd17 "fits" = true) (k17 : PySem.W.keepIn K (.ref u17) = true)
    {u18 : Addr} {od18 an18 : Option Addr} {sl18 : Array (Option Value)} {oc18 kV18 dc18 pm18 cd18 ct18 : Value} (a18 : PySem.W.nsIn K mainGlobals "need_spares" = some (some (.ref u18))) (l18 : K.lookup u18 = some ⟨oc18, od18, .func (PySem.W.fnOf "need_spares" "need_spares" (defArgs s_need_spares) (defBody s_need_spares) (defScope s_need_spares) .none kV18 dc18 pm18 an18 cd18 ct18), sl18⟩) (c18 : PySem.W.codeIn K cd18 "need_spares" = true) (k18 : PySem.W.keepIn K (.ref u18) = true)
    {u19 : Addr} {od19 an19 : Option Addr} {sl19 : Array (Option Value)} {oc19 kV19 dc19 pm19 cd19 ct19 : Value} (a19 : PySem.W.nsIn K mainGlobals "power" = some (some (.ref u19))) (l19 : K.lookup u19 = some ⟨oc19, od19, .func (PySem.W.fnOf "power" "power" (defArgs s_power) (defBody s_power) (defScope s_power) .none kV19 dc19 pm19 an19 cd19 ct19), sl19⟩) (c19 : PySem.W.codeIn K cd19 "power" = true) (k19 : PySem.W.keepIn K (.ref u19) = true)
    {u20 : Addr} {od20 an20 : Option Addr} {sl20 : Array (Option Value)} {oc20 kV20 dc20 pm20 cd20 ct20 : Value} (a20 : PySem.W.nsIn K mainGlobals "good_of" = some (some (.ref u20))) (l20 : K.lookup u20 = some ⟨oc20, od20, .func (PySem.W.fnOf "good_of" "good_of" (defArgs s_good_of) (defBody s_good_of) (defScope s_good_of) .none kV20 dc20 pm20 an20 cd20 ct20), sl20⟩) (c20 : PySem.W.codeIn K cd20 "good_of" = true) (k20 : PySem.W.keepIn K (.ref u20) = true)
    {u21 : Addr} {od21 an21 : Option Addr} {sl21 : Array (Option Value)} {oc21 kV21 dc21 pm21 cd21 ct21 : Value} (a21 : PySem.W.nsIn K mainGlobals "next_chances" = some (some (.ref u21))) (l21 : K.lookup u21 = some ⟨oc21, od21, .func (PySem.W.fnOf "next_chances" "next_chances" (defArgs s_next_chances) (defBody s_next_chances) (defScope s_next_chances) .none kV21 dc21 pm21 an21 cd21 ct21), sl21⟩) (c21 : PySem.W.codeIn K cd21 "next_chances" = true) (k21 : PySem.W.keepIn K (.ref u21) = true)
    {u22 : Addr} {od22 an22 : Option Addr} {sl22 : Array (Option Value)} {oc22 kV22 dc22 pm22 cd22 ct22 : Value} (a22 : PySem.W.nsIn K mainGlobals "chances_in" = some (some (.ref u22))) (l22 : K.lookup u22 = some ⟨oc22, od22, .func (PySem.W.fnOf "chances_in" "chances_in" (defArgs s_chances_in) (defBody s_chances_in) (defScope s_chances_in) .none kV22 dc22 pm22 an22 cd22 ct22), sl22⟩) (c22 : PySem.W.codeIn K cd22 "chances_in" = true) (k22 : PySem.W.keepIn K (.ref u22) = true)
    {u23 : Addr} {od23 an23 : Option Addr} {sl23 : Array (Option Value)} {oc23 kV23 dc23 pm23 cd23 ct23 : Value} (a23 : PySem.W.nsIn K mainGlobals "last_in" = some (some (.ref u23))) (l23 : K.lookup u23 = some ⟨oc23, od23, .func (PySem.W.fnOf "last_in" "last_in" (defArgs s_last_in) (defBody s_last_in) (defScope s_last_in) .none kV23 dc23 pm23 an23 cd23 ct23), sl23⟩) (c23 : PySem.W.codeIn K cd23 "last_in" = true) (k23 : PySem.W.keepIn K (.ref u23) = true)
    {u24 : Addr} {od24 an24 : Option Addr} {sl24 : Array (Option Value)} {oc24 kV24 dc24 pm24 cd24 ct24 : Value} (a24 : PySem.W.nsIn K mainGlobals "last_chance" = some (some (.ref u24))) (l24 : K.lookup u24 = some ⟨oc24, od24, .func (PySem.W.fnOf "last_chance" "last_chance" (defArgs s_last_chance) (defBody s_last_chance) (defScope s_last_chance) .none kV24 dc24 pm24 an24 cd24 ct24), sl24⟩) (c24 : PySem.W.codeIn K cd24 "last_chance" = true) (k24 : PySem.W.keepIn K (.ref u24) = true)
    {u25 : Addr} {od25 an25 : Option Addr} {sl25 : Array (Option Value)} {oc25 kV25 dc25 pm25 cd25 ct25 : Value} (a25 : PySem.W.nsIn K mainGlobals "good_chances" = some (some (.ref u25))) (l25 : K.lookup u25 = some ⟨oc25, od25, .func (PySem.W.fnOf "good_chances" "good_chances" (defArgs s_good_chances) (defBody s_good_chances) (defScope s_good_chances) .none kV25 dc25 pm25 an25 cd25 ct25), sl25⟩) (c25 : PySem.W.codeIn K cd25 "good_chances" = true) (k25 : PySem.W.keepIn K (.ref u25) = true)
    {u26 : Addr} {od26 an26 : Option Addr} {sl26 : Array (Option Value)} {oc26 kV26 dc26 pm26 cd26 ct26 : Value} (a26 : PySem.W.nsIn K mainGlobals "spares_needed" = some (some (.ref u26))) (l26 : K.lookup u26 = some ⟨oc26, od26, .func (PySem.W.fnOf "spares_needed" "spares_needed" (defArgs s_spares_needed) (defBody s_spares_needed) (defScope s_spares_needed) .none kV26 dc26 pm26 an26 cd26 ct26), sl26⟩) (c26 : PySem.W.codeIn K cd26 "spares_needed" = true) (k26 : PySem.W.keepIn K (.ref u26) = true)
    {u27 : Addr} {od27 an27 : Option Addr} {sl27 : Array (Option Value)} {oc27 kV27 dc27 pm27 cd27 ct27 : Value} (a27 : PySem.W.nsIn K mainGlobals "is_chance" = some (some (.ref u27))) (l27 : K.lookup u27 = some ⟨oc27, od27, .func (PySem.W.fnOf "is_chance" "is_chance" (defArgs s_is_chance) (defBody s_is_chance) (defScope s_is_chance) .none kV27 dc27 pm27 an27 cd27 ct27), sl27⟩) (c27 : PySem.W.codeIn K cd27 "is_chance" = true) (k27 : PySem.W.keepIn K (.ref u27) = true)
    {u28 : Addr} {od28 an28 : Option Addr} {sl28 : Array (Option Value)} {oc28 kV28 dc28 pm28 cd28 ct28 : Value} (a28 : PySem.W.nsIn K mainGlobals "need_parts" = some (some (.ref u28))) (l28 : K.lookup u28 = some ⟨oc28, od28, .func (PySem.W.fnOf "need_parts" "need_parts" (defArgs s_need_parts) (defBody s_need_parts) (defScope s_need_parts) .none kV28 dc28 pm28 an28 cd28 ct28), sl28⟩) (c28 : PySem.W.codeIn K cd28 "need_parts" = true) (k28 : PySem.W.keepIn K (.ref u28) = true)
    {u29 : Addr} {od29 an29 : Option Addr} {sl29 : Array (Option Value)} {oc29 kV29 dc29 pm29 cd29 ct29 : Value} (a29 : PySem.W.nsIn K mainGlobals "rest_of_goodcounts" = some (some (.ref u29))) (l29 : K.lookup u29 = some ⟨oc29, od29, .func (PySem.W.fnOf "rest_of" "rest_of" (defArgs s_rest_of_goodcounts) (defBody s_rest_of_goodcounts) (defScope s_rest_of_goodcounts) .none kV29 dc29 pm29 an29 cd29 ct29), sl29⟩) (c29 : PySem.W.codeIn K cd29 "rest_of" = true) (k29 : PySem.W.keepIn K (.ref u29) = true)
    {u30 : Addr} {od30 an30 : Option Addr} {sl30 : Array (Option Value)} {oc30 kV30 dc30 pm30 cd30 ct30 : Value} (a30 : PySem.W.nsIn K mainGlobals "counts_in" = some (some (.ref u30))) (l30 : K.lookup u30 = some ⟨oc30, od30, .func (PySem.W.fnOf "counts_in" "counts_in" (defArgs s_counts_in) (defBody s_counts_in) (defScope s_counts_in) .none kV30 dc30 pm30 an30 cd30 ct30), sl30⟩) (c30 : PySem.W.codeIn K cd30 "counts_in" = true) (k30 : PySem.W.keepIn K (.ref u30) = true)
    {u31 : Addr} {od31 an31 : Option Addr} {sl31 : Array (Option Value)} {oc31 kV31 dc31 pm31 cd31 ct31 : Value} (a31 : PySem.W.nsIn K mainGlobals "total_of" = some (some (.ref u31))) (l31 : K.lookup u31 = some ⟨oc31, od31, .func (PySem.W.fnOf "total_of" "total_of" (defArgs s_total_of) (defBody s_total_of) (defScope s_total_of) .none kV31 dc31 pm31 an31 cd31 ct31), sl31⟩) (c31 : PySem.W.codeIn K cd31 "total_of" = true) (k31 : PySem.W.keepIn K (.ref u31) = true)
    {u32 : Addr} {od32 an32 : Option Addr} {sl32 : Array (Option Value)} {oc32 kV32 dc32 pm32 cd32 ct32 : Value} (a32 : PySem.W.nsIn K mainGlobals "count_chances" = some (some (.ref u32))) (l32 : K.lookup u32 = some ⟨oc32, od32, .func (PySem.W.fnOf "count_chances" "count_chances" (defArgs s_count_chances) (defBody s_count_chances) (defScope s_count_chances) .none kV32 dc32 pm32 an32 cd32 ct32), sl32⟩) (c32 : PySem.W.codeIn K cd32 "count_chances" = true) (k32 : PySem.W.keepIn K (.ref u32) = true)
    {u33 : Addr} {od33 an33 : Option Addr} {sl33 : Array (Option Value)} {oc33 kV33 dc33 pm33 cd33 ct33 : Value} (a33 : PySem.W.nsIn K mainGlobals "at_least" = some (some (.ref u33))) (l33 : K.lookup u33 = some ⟨oc33, od33, .func (PySem.W.fnOf "at_least" "at_least" (defArgs s_at_least) (defBody s_at_least) (defScope s_at_least) .none kV33 dc33 pm33 an33 cd33 ct33), sl33⟩) (c33 : PySem.W.codeIn K cd33 "at_least" = true) (k33 : PySem.W.keepIn K (.ref u33) = true)
    {u34 : Addr} {od34 an34 : Option Addr} {sl34 : Array (Option Value)} {oc34 kV34 dc34 pm34 cd34 ct34 : Value} (a34 : PySem.W.nsIn K mainGlobals "mean_good" = some (some (.ref u34))) (l34 : K.lookup u34 = some ⟨oc34, od34, .func (PySem.W.fnOf "mean_good" "mean_good" (defArgs s_mean_good) (defBody s_mean_good) (defScope s_mean_good) .none kV34 dc34 pm34 an34 cd34 ct34), sl34⟩) (c34 : PySem.W.codeIn K cd34 "mean_good" = true) (k34 : PySem.W.keepIn K (.ref u34) = true)
    {u35 : Addr} {od35 an35 : Option Addr} {sl35 : Array (Option Value)} {oc35 kV35 dc35 pm35 cd35 ct35 : Value} (a35 : PySem.W.nsIn K mainGlobals "cut" = some (some (.ref u35))) (l35 : K.lookup u35 = some ⟨oc35, od35, .func (PySem.W.fnOf "cut" "cut" (defArgs s_cut) (defBody s_cut) (defScope s_cut) .none kV35 dc35 pm35 an35 cd35 ct35), sl35⟩) (c35 : PySem.W.codeIn K cd35 "cut" = true) (k35 : PySem.W.keepIn K (.ref u35) = true)
    {u36 : Addr} {od36 an36 : Option Addr} {sl36 : Array (Option Value)} {oc36 kV36 dc36 pm36 cd36 ct36 : Value} (a36 : PySem.W.nsIn K mainGlobals "add" = some (some (.ref u36))) (l36 : K.lookup u36 = some ⟨oc36, od36, .func (PySem.W.fnOf "add" "add" (defArgs s_add) (defBody s_add) (defScope s_add) .none kV36 dc36 pm36 an36 cd36 ct36), sl36⟩) (c36 : PySem.W.codeIn K cd36 "add" = true) (k36 : PySem.W.keepIn K (.ref u36) = true)
    {u37 : Addr} {od37 an37 : Option Addr} {sl37 : Array (Option Value)} {oc37 kV37 dc37 pm37 cd37 ct37 : Value} (a37 : PySem.W.nsIn K mainGlobals "multiply" = some (some (.ref u37))) (l37 : K.lookup u37 = some ⟨oc37, od37, .func (PySem.W.fnOf "multiply" "multiply" (defArgs s_multiply) (defBody s_multiply) (defScope s_multiply) .none kV37 dc37 pm37 an37 cd37 ct37), sl37⟩) (c37 : PySem.W.codeIn K cd37 "multiply" = true) (k37 : PySem.W.keepIn K (.ref u37) = true)
    {u38 : Addr} {od38 an38 : Option Addr} {sl38 : Array (Option Value)} {oc38 kV38 dc38 pm38 cd38 ct38 : Value} (a38 : PySem.W.nsIn K mainGlobals "need_numbers" = some (some (.ref u38))) (l38 : K.lookup u38 = some ⟨oc38, od38, .func (PySem.W.fnOf "need_numbers" "need_numbers" (defArgs s_need_numbers) (defBody s_need_numbers) (defScope s_need_numbers) .none kV38 dc38 pm38 an38 cd38 ct38), sl38⟩) (c38 : PySem.W.codeIn K cd38 "need_numbers" = true) (k38 : PySem.W.keepIn K (.ref u38) = true)
    {u39 : Addr} {od39 an39 : Option Addr} {sl39 : Array (Option Value)} {oc39 kV39 dc39 pm39 cd39 ct39 : Value} (a39 : PySem.W.nsIn K mainGlobals "justs_in" = some (some (.ref u39))) (l39 : K.lookup u39 = some ⟨oc39, od39, .func (PySem.W.fnOf "justs_in" "justs_in" (defArgs s_justs_in) (defBody s_justs_in) (defScope s_justs_in) .none kV39 dc39 pm39 an39 cd39 ct39), sl39⟩) (c39 : PySem.W.codeIn K cd39 "justs_in" = true) (k39 : PySem.W.keepIn K (.ref u39) = true)
    {u40 : Addr} {od40 an40 : Option Addr} {sl40 : Array (Option Value)} {oc40 kV40 dc40 pm40 cd40 ct40 : Value} (a40 : PySem.W.nsIn K mainGlobals "at_least_in" = some (some (.ref u40))) (l40 : K.lookup u40 = some ⟨oc40, od40, .func (PySem.W.fnOf "at_least_in" "at_least_in" (defArgs s_at_least_in) (defBody s_at_least_in) (defScope s_at_least_in) .none kV40 dc40 pm40 an40 cd40 ct40), sl40⟩) (c40 : PySem.W.codeIn K cd40 "at_least_in" = true) (k40 : PySem.W.keepIn K (.ref u40) = true)
    {u41 : Addr} {od41 an41 : Option Addr} {sl41 : Array (Option Value)} {oc41 kV41 dc41 pm41 cd41 ct41 : Value} (a41 : PySem.W.nsIn K mainGlobals "value_in" = some (some (.ref u41))) (l41 : K.lookup u41 = some ⟨oc41, od41, .func (PySem.W.fnOf "value_in" "value_in" (defArgs s_value_in) (defBody s_value_in) (defScope s_value_in) .none kV41 dc41 pm41 an41 cd41 ct41), sl41⟩) (c41 : PySem.W.codeIn K cd41 "value_in" = true) (k41 : PySem.W.keepIn K (.ref u41) = true)
    {u42 : Addr} {od42 an42 : Option Addr} {sl42 : Array (Option Value)} {oc42 kV42 dc42 pm42 cd42 ct42 : Value} (a42 : PySem.W.nsIn K mainGlobals "at_least_alike" = some (some (.ref u42))) (l42 : K.lookup u42 = some ⟨oc42, od42, .func (PySem.W.fnOf "at_least_alike" "at_least_alike" (defArgs s_at_least_alike) (defBody s_at_least_alike) (defScope s_at_least_alike) .none kV42 dc42 pm42 an42 cd42 ct42), sl42⟩) (c42 : PySem.W.codeIn K cd42 "at_least_alike" = true) (k42 : PySem.W.keepIn K (.ref u42) = true)
    {u43 : Addr} {od43 an43 : Option Addr} {sl43 : Array (Option Value)} {oc43 kV43 dc43 pm43 cd43 ct43 : Value} (a43 : PySem.W.nsIn K mainGlobals "is_rate" = some (some (.ref u43))) (l43 : K.lookup u43 = some ⟨oc43, od43, .func (PySem.W.fnOf "is_rate" "is_rate" (defArgs s_is_rate) (defBody s_is_rate) (defScope s_is_rate) .none kV43 dc43 pm43 an43 cd43 ct43), sl43⟩) (c43 : PySem.W.codeIn K cd43 "is_rate" = true) (k43 : PySem.W.keepIn K (.ref u43) = true)
    {u44 : Addr} {od44 an44 : Option Addr} {sl44 : Array (Option Value)} {oc44 kV44 dc44 pm44 cd44 ct44 : Value} (a44 : PySem.W.nsIn K mainGlobals "fits_mendladders" = some (some (.ref u44))) (l44 : K.lookup u44 = some ⟨oc44, od44, .func (PySem.W.fnOf "fits" "fits" (defArgs s_fits_mendladders) (defBody s_fits_mendladders) (defScope s_fits_mendladders) .none kV44 dc44 pm44 an44 cd44 ct44), sl44⟩) (c44 : PySem.W.codeIn K cd44 "fits" = true) (k44 : PySem.W.keepIn K (.ref u44) = true)
    {u45 : Addr} {od45 an45 : Option Addr} {sl45 : Array (Option Value)} {oc45 kV45 dc45 pm45 cd45 ct45 : Value} (a45 : PySem.W.nsIn K mainGlobals "need_ladder" = some (some (.ref u45))) (l45 : K.lookup u45 = some ⟨oc45, od45, .func (PySem.W.fnOf "need_ladder" "need_ladder" (defArgs s_need_ladder) (defBody s_need_ladder) (defScope s_need_ladder) .none kV45 dc45 pm45 an45 cd45 ct45), sl45⟩) (c45 : PySem.W.codeIn K cd45 "need_ladder" = true) (k45 : PySem.W.keepIn K (.ref u45) = true)
    {u46 : Addr} {od46 an46 : Option Addr} {sl46 : Array (Option Value)} {oc46 kV46 dc46 pm46 cd46 ct46 : Value} (a46 : PySem.W.nsIn K mainGlobals "flows_in" = some (some (.ref u46))) (l46 : K.lookup u46 = some ⟨oc46, od46, .func (PySem.W.fnOf "flows_in" "flows_in" (defArgs s_flows_in) (defBody s_flows_in) (defScope s_flows_in) .none kV46 dc46 pm46 an46 cd46 ct46), sl46⟩) (c46 : PySem.W.codeIn K cd46 "flows_in" = true) (k46 : PySem.W.keepIn K (.ref u46) = true)
    {u47 : Addr} {od47 an47 : Option Addr} {sl47 : Array (Option Value)} {oc47 kV47 dc47 pm47 cd47 ct47 : Value} (a47 : PySem.W.nsIn K mainGlobals "shares_in" = some (some (.ref u47))) (l47 : K.lookup u47 = some ⟨oc47, od47, .func (PySem.W.fnOf "shares_in" "shares_in" (defArgs s_shares_in) (defBody s_shares_in) (defScope s_shares_in) .none kV47 dc47 pm47 an47 cd47 ct47), sl47⟩) (c47 : PySem.W.codeIn K cd47 "shares_in" = true) (k47 : PySem.W.keepIn K (.ref u47) = true)
    {u48 : Addr} {od48 an48 : Option Addr} {sl48 : Array (Option Value)} {oc48 kV48 dc48 pm48 cd48 ct48 : Value} (a48 : PySem.W.nsIn K mainGlobals "flows_of" = some (some (.ref u48))) (l48 : K.lookup u48 = some ⟨oc48, od48, .func (PySem.W.fnOf "flows_of" "flows_of" (defArgs s_flows_of) (defBody s_flows_of) (defScope s_flows_of) .none kV48 dc48 pm48 an48 cd48 ct48), sl48⟩) (c48 : PySem.W.codeIn K cd48 "flows_of" = true) (k48 : PySem.W.keepIn K (.ref u48) = true)
    {u49 : Addr} {od49 an49 : Option Addr} {sl49 : Array (Option Value)} {oc49 kV49 dc49 pm49 cd49 ct49 : Value} (a49 : PySem.W.nsIn K mainGlobals "ladder_shares" = some (some (.ref u49))) (l49 : K.lookup u49 = some ⟨oc49, od49, .func (PySem.W.fnOf "ladder_shares" "ladder_shares" (defArgs s_ladder_shares) (defBody s_ladder_shares) (defScope s_ladder_shares) .none kV49 dc49 pm49 an49 cd49 ct49), sl49⟩) (c49 : PySem.W.codeIn K cd49 "ladder_shares" = true) (k49 : PySem.W.keepIn K (.ref u49) = true)
    {u50 : Addr} {od50 an50 : Option Addr} {sl50 : Array (Option Value)} {oc50 kV50 dc50 pm50 cd50 ct50 : Value} (a50 : PySem.W.nsIn K mainGlobals "mean_up" = some (some (.ref u50))) (l50 : K.lookup u50 = some ⟨oc50, od50, .func (PySem.W.fnOf "mean_up" "mean_up" (defArgs s_mean_up) (defBody s_mean_up) (defScope s_mean_up) .none kV50 dc50 pm50 an50 cd50 ct50), sl50⟩) (c50 : PySem.W.codeIn K cd50 "mean_up" = true) (k50 : PySem.W.keepIn K (.ref u50) = true)
    {u51 : Addr} {od51 an51 : Option Addr} {sl51 : Array (Option Value)} {oc51 kV51 dc51 pm51 cd51 ct51 : Value} (a51 : PySem.W.nsIn K mainGlobals "share_from" = some (some (.ref u51))) (l51 : K.lookup u51 = some ⟨oc51, od51, .func (PySem.W.fnOf "share_from" "share_from" (defArgs s_share_from) (defBody s_share_from) (defScope s_share_from) .none kV51 dc51 pm51 an51 cd51 ct51), sl51⟩) (c51 : PySem.W.codeIn K cd51 "share_from" = true) (k51 : PySem.W.keepIn K (.ref u51) = true)
    {u52 : Addr} {od52 an52 : Option Addr} {sl52 : Array (Option Value)} {oc52 kV52 dc52 pm52 cd52 ct52 : Value} (a52 : PySem.W.nsIn K mainGlobals "steps_down" = some (some (.ref u52))) (l52 : K.lookup u52 = some ⟨oc52, od52, .func (PySem.W.fnOf "steps_down" "steps_down" (defArgs s_steps_down) (defBody s_steps_down) (defScope s_steps_down) .none kV52 dc52 pm52 an52 cd52 ct52), sl52⟩) (c52 : PySem.W.codeIn K cd52 "steps_down" = true) (k52 : PySem.W.keepIn K (.ref u52) = true)
    {u53 : Addr} {od53 an53 : Option Addr} {sl53 : Array (Option Value)} {oc53 kV53 dc53 pm53 cd53 ct53 : Value} (a53 : PySem.W.nsIn K mainGlobals "steps_up" = some (some (.ref u53))) (l53 : K.lookup u53 = some ⟨oc53, od53, .func (PySem.W.fnOf "steps_up" "steps_up" (defArgs s_steps_up) (defBody s_steps_up) (defScope s_steps_up) .none kV53 dc53 pm53 an53 cd53 ct53), sl53⟩) (c53 : PySem.W.codeIn K cd53 "steps_up" = true) (k53 : PySem.W.keepIn K (.ref u53) = true)
    {u54 : Addr} {od54 an54 : Option Addr} {sl54 : Array (Option Value)} {oc54 kV54 dc54 pm54 cd54 ct54 : Value} (a54 : PySem.W.nsIn K mainGlobals "means_in" = some (some (.ref u54))) (l54 : K.lookup u54 = some ⟨oc54, od54, .func (PySem.W.fnOf "means_in" "means_in" (defArgs s_means_in) (defBody s_means_in) (defScope s_means_in) .none kV54 dc54 pm54 an54 cd54 ct54), sl54⟩) (c54 : PySem.W.codeIn K cd54 "means_in" = true) (k54 : PySem.W.keepIn K (.ref u54) = true)
    {u55 : Addr} {od55 an55 : Option Addr} {sl55 : Array (Option Value)} {oc55 kV55 dc55 pm55 cd55 ct55 : Value} (a55 : PySem.W.nsIn K mainGlobals "need_state" = some (some (.ref u55))) (l55 : K.lookup u55 = some ⟨oc55, od55, .func (PySem.W.fnOf "need_state" "need_state" (defArgs s_need_state) (defBody s_need_state) (defScope s_need_state) .none kV55 dc55 pm55 an55 cd55 ct55), sl55⟩) (c55 : PySem.W.codeIn K cd55 "need_state" = true) (k55 : PySem.W.keepIn K (.ref u55) = true)
    {u56 : Addr} {od56 an56 : Option Addr} {sl56 : Array (Option Value)} {oc56 kV56 dc56 pm56 cd56 ct56 : Value} (a56 : PySem.W.nsIn K mainGlobals "mean_between" = some (some (.ref u56))) (l56 : K.lookup u56 = some ⟨oc56, od56, .func (PySem.W.fnOf "mean_between" "mean_between" (defArgs s_mean_between) (defBody s_mean_between) (defScope s_mean_between) .none kV56 dc56 pm56 an56 cd56 ct56), sl56⟩) (c56 : PySem.W.codeIn K cd56 "mean_between" = true) (k56 : PySem.W.keepIn K (.ref u56) = true)
    {u57 : Addr} {od57 an57 : Option Addr} {sl57 : Array (Option Value)} {oc57 kV57 dc57 pm57 cd57 ct57 : Value} (a57 : PySem.W.nsIn K mainGlobals "_law_cup" = some (some (.ref u57))) (l57 : K.lookup u57 = some ⟨oc57, od57, .func (PySem.W.fnOf "_law_cup" "_law_cup" (defArgs s__law_cup) (defBody s__law_cup) (defScope s__law_cup) .none kV57 dc57 pm57 an57 cd57 ct57), sl57⟩) (c57 : PySem.W.codeIn K cd57 "_law_cup" = true) (k57 : PySem.W.keepIn K (.ref u57) = true)
    {u58 : Addr} {od58 an58 : Option Addr} {sl58 : Array (Option Value)} {oc58 kV58 dc58 pm58 cd58 ct58 : Value} (a58 : PySem.W.nsIn K mainGlobals "_law_roll" = some (some (.ref u58))) (l58 : K.lookup u58 = some ⟨oc58, od58, .func (PySem.W.fnOf "_law_roll" "_law_roll" (defArgs s__law_roll) (defBody s__law_roll) (defScope s__law_roll) .none kV58 dc58 pm58 an58 cd58 ct58), sl58⟩) (c58 : PySem.W.codeIn K cd58 "_law_roll" = true) (k58 : PySem.W.keepIn K (.ref u58) = true)
    {u59 : Addr} {od59 an59 : Option Addr} {sl59 : Array (Option Value)} {oc59 kV59 dc59 pm59 cd59 ct59 : Value} (a59 : PySem.W.nsIn K mainGlobals "_law_low" = some (some (.ref u59))) (l59 : K.lookup u59 = some ⟨oc59, od59, .func (PySem.W.fnOf "_law_low" "_law_low" (defArgs s__law_low) (defBody s__law_low) (defScope s__law_low) .none kV59 dc59 pm59 an59 cd59 ct59), sl59⟩) (c59 : PySem.W.codeIn K cd59 "_law_low" = true) (k59 : PySem.W.keepIn K (.ref u59) = true)
    {u60 : Addr} {od60 an60 : Option Addr} {sl60 : Array (Option Value)} {oc60 kV60 dc60 pm60 cd60 ct60 : Value} (a60 : PySem.W.nsIn K mainGlobals "_law_times" = some (some (.ref u60))) (l60 : K.lookup u60 = some ⟨oc60, od60, .func (PySem.W.fnOf "_law_times" "_law_times" (defArgs s__law_times) (defBody s__law_times) (defScope s__law_times) .none kV60 dc60 pm60 an60 cd60 ct60), sl60⟩) (c60 : PySem.W.codeIn K cd60 "_law_times" = true) (k60 : PySem.W.keepIn K (.ref u60) = true)
    {u61 : Addr} {od61 an61 : Option Addr} {sl61 : Array (Option Value)} {oc61 kV61 dc61 pm61 cd61 ct61 : Value} (a61 : PySem.W.nsIn K mainGlobals "_law_less" = some (some (.ref u61))) (l61 : K.lookup u61 = some ⟨oc61, od61, .func (PySem.W.fnOf "_law_less" "_law_less" (defArgs s__law_less) (defBody s__law_less) (defScope s__law_less) .none kV61 dc61 pm61 an61 cd61 ct61), sl61⟩) (c61 : PySem.W.codeIn K cd61 "_law_less" = true) (k61 : PySem.W.keepIn K (.ref u61) = true)
    {u62 : Addr} {od62 an62 : Option Addr} {sl62 : Array (Option Value)} {oc62 kV62 dc62 pm62 cd62 ct62 : Value} (a62 : PySem.W.nsIn K mainGlobals "_law_ladder_right" = some (some (.ref u62))) (l62 : K.lookup u62 = some ⟨oc62, od62, .func (PySem.W.fnOf "_law_ladder_right" "_law_ladder_right" (defArgs s__law_ladder_right) (defBody s__law_ladder_right) (defScope s__law_ladder_right) .none kV62 dc62 pm62 an62 cd62 ct62), sl62⟩) (c62 : PySem.W.codeIn K cd62 "_law_ladder_right" = true) (k62 : PySem.W.keepIn K (.ref u62) = true)
    {u63 : Addr} {od63 an63 : Option Addr} {sl63 : Array (Option Value)} {oc63 kV63 dc63 pm63 cd63 ct63 : Value} (a63 : PySem.W.nsIn K mainGlobals "_law_few_right" = some (some (.ref u63))) (l63 : K.lookup u63 = some ⟨oc63, od63, .func (PySem.W.fnOf "_law_few_right" "_law_few_right" (defArgs s__law_few_right) (defBody s__law_few_right) (defScope s__law_few_right) .none kV63 dc63 pm63 an63 cd63 ct63), sl63⟩) (c63 : PySem.W.codeIn K cd63 "_law_few_right" = true) (k63 : PySem.W.keepIn K (.ref u63) = true)
    {u64 : Addr} {od64 an64 : Option Addr} {sl64 : Array (Option Value)} {oc64 kV64 dc64 pm64 cd64 ct64 : Value} (a64 : PySem.W.nsIn K mainGlobals "_law_spares_right" = some (some (.ref u64))) (l64 : K.lookup u64 = some ⟨oc64, od64, .func (PySem.W.fnOf "_law_spares_right" "_law_spares_right" (defArgs s__law_spares_right) (defBody s__law_spares_right) (defScope s__law_spares_right) .none kV64 dc64 pm64 an64 cd64 ct64), sl64⟩) (c64 : PySem.W.codeIn K cd64 "_law_spares_right" = true) (k64 : PySem.W.keepIn K (.ref u64) = true)
    {u65 : Addr} {od65 an65 : Option Addr} {sl65 : Array (Option Value)} {oc65 kV65 dc65 pm65 cd65 ct65 : Value} (a65 : PySem.W.nsIn K mainGlobals "_law_needed_right" = some (some (.ref u65))) (l65 : K.lookup u65 = some ⟨oc65, od65, .func (PySem.W.fnOf "_law_needed_right" "_law_needed_right" (defArgs s__law_needed_right) (defBody s__law_needed_right) (defScope s__law_needed_right) .none kV65 dc65 pm65 an65 cd65 ct65), sl65⟩) (c65 : PySem.W.codeIn K cd65 "_law_needed_right" = true) (k65 : PySem.W.keepIn K (.ref u65) = true)
    (z_isinstance : PySem.W.nsIn K mainGlobals "isinstance" = some none)
    (z_int : PySem.W.nsIn K mainGlobals "int" = some none)
    (z_bool : PySem.W.nsIn K mainGlobals "bool" = some none)
    (z_tuple : PySem.W.nsIn K mainGlobals "tuple" = some none)
    (z_len : PySem.W.nsIn K mainGlobals "len" = some none)
    (z_all : PySem.W.nsIn K mainGlobals "all" = some none)
    (z_any : PySem.W.nsIn K mainGlobals "any" = some none)
    (z_range : PySem.W.nsIn K mainGlobals "range" = some none)
    (z_enumerate : PySem.W.nsIn K mainGlobals "enumerate" = some none)
    (z_zip : PySem.W.nsIn K mainGlobals "zip" = some none)
    (z_max : PySem.W.nsIn K mainGlobals "max" = some none)
    (z_list : PySem.W.nsIn K mainGlobals "list" = some none)
    (z_min : PySem.W.nsIn K mainGlobals "min" = some none)
    (z_abs : PySem.W.nsIn K mainGlobals "abs" = some none)
    (m_gcd : PySem.W.nsIn K mainGlobals "gcd" = some (some (.builtin "math.gcd")))
    (m_comb : PySem.W.nsIn K mainGlobals "comb" = some (some (.builtin "math.comb")))
    {t_GREAT : Tok} (c_GREAT : PySem.W.nsIn K mainGlobals "GREAT" = some (some (.int 1000000000000000000000000000000000000000000000000000000000000 t_GREAT)))
    {t_SMALL : Tok} (c_SMALL : PySem.W.nsIn K mainGlobals "SMALL" = some (some (.int 100 t_SMALL)))
    {t_MOST_waitingspares : Tok} (c_MOST_waitingspares : PySem.W.nsIn K mainGlobals "MOST_waitingspares" = some (some (.int 6 t_MOST_waitingspares)))
    {t_STEPS : Tok} (c_STEPS : PySem.W.nsIn K mainGlobals "STEPS" = some (some (.int 30 t_STEPS)))
    {t_BOTTOM : Tok} (c_BOTTOM : PySem.W.nsIn K mainGlobals "BOTTOM" = some (some (.int 1000 t_BOTTOM)))
    {t_PARTS_goodcounts : Tok} (c_PARTS_goodcounts : PySem.W.nsIn K mainGlobals "PARTS_goodcounts" = some (some (.int 12 t_PARTS_goodcounts)))
    {t_MOST_likeparts : Tok} (c_MOST_likeparts : PySem.W.nsIn K mainGlobals "MOST_likeparts" = some (some (.int 30 t_MOST_likeparts)))
    {t_RATE : Tok} (c_RATE : PySem.W.nsIn K mainGlobals "RATE" = some (some (.int 100 t_RATE)))
    {t_PARTS_mendladders : Tok} (c_PARTS_mendladders : PySem.W.nsIn K mainGlobals "PARTS_mendladders" = some (some (.int 8 t_PARTS_mendladders)))
    {C0 : Addr} (ea0 : PySem.W.nsIn K mainGlobals "InvalidNumber" = some (some (.ref C0))) (eb0 : PySem.W.excIn K C0 [.type "ValueError", .type "Exception", .type "BaseException", .type "object"] "ValueError.__new__" = true) (ec0 : PySem.W.keepIn K (.ref C0) = true) (ed0 : PySem.W.subIn K (.ref C0) (.type "BaseException") = some true) (ee0 : PySem.W.typeIn K (.ref C0) = some (.type "type"))
    {C1 : Addr} (ea1 : PySem.W.nsIn K mainGlobals "InvalidPortion" = some (some (.ref C1))) (eb1 : PySem.W.excIn K C1 [.type "ValueError", .type "Exception", .type "BaseException", .type "object"] "ValueError.__new__" = true) (ec1 : PySem.W.keepIn K (.ref C1) = true) (ed1 : PySem.W.subIn K (.ref C1) (.type "BaseException") = some true) (ee1 : PySem.W.typeIn K (.ref C1) = some (.type "type"))
    {C2 : Addr} (ea2 : PySem.W.nsIn K mainGlobals "InvalidRates" = some (some (.ref C2))) (eb2 : PySem.W.excIn K C2 [.type "ValueError", .type "Exception", .type "BaseException", .type "object"] "ValueError.__new__" = true) (ec2 : PySem.W.keepIn K (.ref C2) = true) (ed2 : PySem.W.subIn K (.ref C2) (.type "BaseException") = some true) (ee2 : PySem.W.typeIn K (.ref C2) = some (.type "type"))
    {C3 : Addr} (ea3 : PySem.W.nsIn K mainGlobals "InvalidSpares" = some (some (.ref C3))) (eb3 : PySem.W.excIn K C3 [.type "ValueError", .type "Exception", .type "BaseException", .type "object"] "ValueError.__new__" = true) (ec3 : PySem.W.keepIn K (.ref C3) = true) (ed3 : PySem.W.subIn K (.ref C3) (.type "BaseException") = some true) (ee3 : PySem.W.typeIn K (.ref C3) = some (.type "type"))
    {C4 : Addr} (ea4 : PySem.W.nsIn K mainGlobals "InvalidChances" = some (some (.ref C4))) (eb4 : PySem.W.excIn K C4 [.type "ValueError", .type "Exception", .type "BaseException", .type "object"] "ValueError.__new__" = true) (ec4 : PySem.W.keepIn K (.ref C4) = true) (ed4 : PySem.W.subIn K (.ref C4) (.type "BaseException") = some true) (ee4 : PySem.W.typeIn K (.ref C4) = some (.type "type"))
    {f0 : Addr} {od an : Option Addr} {sl : Array (Option Value)} {oc kV dc pm cd ct : Value}
    (aL : PySem.W.nsIn K mainGlobals "law" = some (some (.ref f0))) (lL : K.lookup f0 = some ⟨oc, od, .func (PySem.W.fnOf "law" "law" (defArgs s_law) (defBody s_law) (defScope s_law) .none kV dc pm an cd ct), sl⟩) (cL : PySem.W.codeIn K cd "law" = true) (kL : PySem.W.keepIn K (.ref f0) = true) :
    ∃ fd : FuncData, (∀ (s : Shared) (v : Value), BindsTo s fd ⟨[v], []⟩ [("script", v)]) ∧ ∀ base : Heap, K.In base → base.Ns mainGlobals mg → FnOk P w K mg base (L2.CX P w) 10 fa fd ["script"] (spL K) := by
  have e := hfa.symm.trans (PySem.W.mg_of X G aL)
  cases e
  have T : Top ⟨K, fun _ => fa, fun i => ([C0, C1, C2, C3, C4] : List Addr).getD i fa, []⟩ K mg := ⟨rfl, rfl, fnC_mk X G a0 l0 c0 k0, fnC_mk X G a1 l1 c1 k1, fnC_mk X G a2 l2 c2 k2, fnC_mk X G a3 l3 c3 k3, fnC_mk X G a4 l4 c4 k4, fnC_mk X G a5 l5 c5 k5, fnC_mk X G a6 l6 c6 k6, fnC_mk X G a7 l7 c7 k7, fnC_mk X G a8 l8 c8 k8, fnC_mk X G a9 l9 c9 k9, fnC_mk X G a10 l10 c10 k10, fnC_mk X G a11 l11 c11 k11, fnC_mk X G a12 l12 c12 k12, fnC_mk X G a13 l13 c13 k13, fnC_mk X G a14 l14 c14 k14, fnC_mk X G a15 l15 c15 k15, fnC_mk X G a16 l16 c16 k16, fnC_mk X G a17 l17 c17 k17, fnC_mk X G a18 l18 c18 k18, fnC_mk X G a19 l19 c19 k19, fnC_mk X G a20 l20 c20 k20, fnC_mk X G a21 l21 c21 k21, fnC_mk X G a22 l22 c22 k22, fnC_mk X G a23 l23 c23 k23, fnC_mk X G a24 l24 c24 k24, fnC_mk X G a25 l25 c25 k25, fnC_mk X G a26 l26 c26 k26, fnC_mk X G a27 l27 c27 k27, fnC_mk X G a28 l28 c28 k28, fnC_mk X G a29 l29 c29 k29, fnC_mk X G a30 l30 c30 k30, fnC_mk X G a31 l31 c31 k31, fnC_mk X G a32 l32 c32 k32, fnC_mk X G a33 l33 c33 k33, fnC_mk X G a34 l34 c34 k34, fnC_mk X G a35 l35 c35 k35, fnC_mk X G a36 l36 c36 k36, fnC_mk X G a37 l37 c37 k37, fnC_mk X G a38 l38 c38 k38, fnC_mk X G a39 l39 c39 k39, fnC_mk X G a40 l40 c40 k40, fnC_mk X G a41 l41 c41 k41, fnC_mk X G a42 l42 c42 k42, fnC_mk X G a43 l43 c43 k43, fnC_mk X G a44 l44 c44 k44, fnC_mk X G a45 l45 c45 k45, fnC_mk X G a46 l46 c46 k46, fnC_mk X G a47 l47 c47 k47, fnC_mk X G a48 l48 c48 k48, fnC_mk X G a49 l49 c49 k49, fnC_mk X G a50 l50 c50 k50, fnC_mk X G a51 l51 c51 k51, fnC_mk X G a52 l52 c52 k52, fnC_mk X G a53 l53 c53 k53, fnC_mk X G a54 l54 c54 k54, fnC_mk X G a55 l55 c55 k55, fnC_mk X G a56 l56 c56 k56, fnC_mk X G a57 l57 c57 k57, fnC_mk X G a58 l58 c58 k58, fnC_mk X G a59 l59 c59 k59, fnC_mk X G a60 l60 c60 k60, fnC_mk X G a61 l61 c61 k61, fnC_mk X G a62 l62 c62 k62, fnC_mk X G a63 l63 c63 k63, fnC_mk X G a64 l64 c64 k64, fnC_mk X G a65 l65 c65 k65, PySem.W.mg_none_of X G z_isinstance, PySem.W.mg_none_of X G z_int, PySem.W.mg_none_of X G z_bool, PySem.W.mg_none_of X G z_tuple, PySem.W.mg_none_of X G z_len, PySem.W.mg_none_of X G z_all, PySem.W.mg_none_of X G z_any, PySem.W.mg_none_of X G z_range, PySem.W.mg_none_of X G z_enumerate, PySem.W.mg_none_of X G z_zip, PySem.W.mg_none_of X G z_max, PySem.W.mg_none_of X G z_list, PySem.W.mg_none_of X G z_min, PySem.W.mg_none_of X G z_abs, PySem.W.mg_of X G m_gcd, PySem.W.mg_of X G m_comb, int_mk X G c_GREAT, int_mk X G c_SMALL, int_mk X G c_MOST_waitingspares, int_mk X G c_STEPS, int_mk X G c_BOTTOM, int_mk X G c_PARTS_goodcounts, int_mk X G c_MOST_likeparts, int_mk X G c_RATE, int_mk X G c_PARTS_mendladders, ⟨PySem.W.mg_of X G ea0, eb0, ec0, ed0, ee0⟩, ⟨PySem.W.mg_of X G ea1, eb1, ec1, ed1, ee1⟩, ⟨PySem.W.mg_of X G ea2, eb2, ec2, ed2, ee2⟩, ⟨PySem.W.mg_of X G ea3, eb3, ec3, ed3, ee3⟩, ⟨PySem.W.mg_of X G ea4, eb4, ec4, ed4, ee4⟩⟩
  exact ⟨_, fun s v => .of_eq rfl, fun base _ _ => ok_law T hlaw (fun_mk (st := s_law) lL cL kL)⟩
end W92

namespace W92
open PySem L2 PL
theorem is_whole_int (v lo hi : Int) : g_is_whole [.int v, .int lo, .int hi] = .ok (.bl (decide (lo ≤ v) && decide (v ≤ hi))) := by
  simp [g_is_whole, b_is_whole]
  by_cases h : lo ≤ v <;> simp [h]
theorem is_tuple_of_tup (ds : List D) (lo hi : Int) : g_is_tuple_of [.tup ds, .int lo, .int hi] = .ok (.bl (decide (lo ≤ (ds.length : Int)) && decide ((ds.length : Int) ≤ hi))) := by
  simp [g_is_tuple_of, b_is_tuple_of]
  by_cases h : lo ≤ (ds.length : Int) <;> simp [h]
/-- lowest terms, small, of 60 figures -/
def pok (q : Q) : Bool := Nat.ble q.1 (10 ^ 60) && Nat.ble 1 q.2 && Nat.ble q.2 (10 ^ 60) && Nat.beq (Nat.gcd q.1 q.2) 1
theorem is_portion_ok (q : Q) (h : pok q = true) : g_is_portion [qd q] = .ok (.bl true) := by
  simp only [pok, Bool.and_eq_true, Nat.ble_eq] at h
  obtain ⟨⟨⟨h1, h2⟩, h3⟩, h4⟩ := h
  replace h4 := Nat.eq_of_beq_eq_true h4
  have e1 : decide ((q.1 : Int) ≤ 1000000000000000000000000000000000000000000000000000000000000) = true := decide_eq_true (by omega)
  have e2 : decide ((1 : Int) ≤ (q.2 : Int)) = true := decide_eq_true (by omega)
  have e3 : decide ((q.2 : Int) ≤ 1000000000000000000000000000000000000000000000000000000000000) = true := decide_eq_true (by omega)
  have e4 : decide (-1000000000000000000000000000000000000000000000000000000000000 ≤ (q.1 : Int)) = true := decide_eq_true (by omega)
  simp [g_is_portion, b_is_portion, qd, is_tuple_of_tup, is_whole_int, e1, e2, e3, e4, dEq_int, h4]
theorem lowest_ok (t b : Nat) (hb : 0 < b) (hs : b.log2 < 9000) : g_lowest [.int (t : Int), .int (b : Int)] = .ok (qd (lowN t b)) := by
  have hg : 0 < Nat.gcd t b := Nat.gcd_pos_of_pos_right _ hb
  have hg1 : ((Nat.gcd t b : Nat) : Int) ≠ 0 := by omega
  have hl : (Nat.gcd t b).log2 < 9000 := by
    have h3 : Nat.gcd t b ≤ b := Nat.gcd_le_right _ hb
    have h4 : (Nat.gcd t b).log2 ≤ b.log2 := by
      have h5 := Nat.log2_self_le (n := Nat.gcd t b) (by omega)
      rw [Nat.le_log2 (by omega)]
      omega
    omega
  have hd : divOk ((Nat.gcd t b : Nat) : Int) = true := by simp only [divOk, Int.natAbs_natCast, decide_eq_true_eq]; exact ⟨hg1, hl⟩
  have hb' : (0 : Int) < (b : Int) := by omega
  have e : ∀ x : Nat, (x : Int).fdiv ((Nat.gcd t b : Nat) : Int) = ((x / Nat.gcd t b : Nat) : Int) := fun x => by rw [Int.fdiv_eq_ediv_of_nonneg _ (by omega)]; simp
  simp [g_lowest, b_lowest, hb, hb', dDiv, hd, e, qd, lowN]
theorem plus_ok {x y z : Q} (h : plusN x y = some z) : g_plus [qd x, qd y] = .ok (qd z) := by
  unfold plusN at h
  split at h
  · rename_i hh
    simp only [Bool.and_eq_true] at hh
    obtain ⟨⟨⟨⟨h1, h2⟩, h3⟩, h4⟩, h5⟩ := hh
    have h6 : 0 < x.2 * y.2 := Nat.blt_eq.mp h5
    cases h
    have e := lowest_ok (x.1 * y.2 + y.1 * x.2) (x.2 * y.2) h6 (log_sm h6 h2 h4)
    simp only [Int.natCast_add, Int.natCast_mul] at e
    simp [g_plus, b_plus, qd, dMul, mulOk_sm h1 h4, mulOk_sm h3 h2, mulOk_sm h2 h4, e]
  · cases h
theorem times_ok {x y z : Q} (h : timesN x y = some z) : g_times [qd x, qd y] = .ok (qd z) := by
  unfold timesN at h
  split at h
  · rename_i hh
    simp only [Bool.and_eq_true] at hh
    obtain ⟨⟨⟨⟨h1, h2⟩, h3⟩, h4⟩, h5⟩ := hh
    have h6 : 0 < x.2 * y.2 := Nat.blt_eq.mp h5
    cases h
    have e := lowest_ok (x.1 * y.1) (x.2 * y.2) h6 (log_sm h6 h2 h4)
    simp only [Int.natCast_mul] at e
    simp [g_times, b_times, qd, dMul, mulOk_sm h1 h3, mulOk_sm h2 h4, e]
  · cases h
theorem quot_ok {x y z : Q} (h : quotN x y = some z) : g_quotient [qd x, qd y] = .ok (qd z) := by
  unfold quotN at h
  split at h
  · rename_i hh
    simp only [Bool.and_eq_true] at hh
    obtain ⟨⟨⟨⟨h1, h2⟩, h3⟩, h4⟩, h5⟩ := hh
    have h6 : 0 < x.2 * y.1 := Nat.blt_eq.mp h5
    cases h
    have e := lowest_ok (x.1 * y.2) (x.2 * y.1) h6 (log_sm h6 h2 h3)
    simp only [Int.natCast_mul] at e
    simp [g_quotient, b_quotient, qd, dMul, mulOk_sm h1 h4, mulOk_sm h2 h3, e]
  · cases h
/-! sums -/
def totN (xs : List Q) : Option Q := foldO plusN xs (0, 1)
theorem total_of_ok {xs : List Q} {z : Q} (h : totN xs = some z) : g_total_of [.tup (xs.map qd)] = .ok (qd z) ∧ g_total_of [.lst (xs.map qd)] = .ok (qd z) := by
  constructor
  · obtain ⟨b, e⟩ := sFor_fold (src := S1_total_of) (tgt := T1_total_of) (body := B1_total_of) qd plusN (fun a (b : Slot × Slot) => [b.1, .pu (qd a), b.2]) (ε := [.pu (.tup (xs.map qd)), .pu (.tup [.int 0, .int 1]), .em]) (b := (.pu (.tup (xs.map qd)), .em)) h (by simp; rfl) rfl rfl
      (fun a b j a' ha => ⟨_, by simp; rfl, (b.1, .pu (qd j)), by simp [plus_ok ha]⟩)
    simp [g_total_of, b_total_of, e]
  · obtain ⟨b, e⟩ := sFor_fold (src := S1_total_of) (tgt := T1_total_of) (body := B1_total_of) qd plusN (fun a (b : Slot × Slot) => [b.1, .pu (qd a), b.2]) (ε := [.pu (.lst (xs.map qd)), .pu (.tup [.int 0, .int 1]), .em]) (b := (.pu (.lst (xs.map qd)), .em)) h (by simp; rfl) rfl rfl
      (fun a b j a' ha => ⟨_, by simp; rfl, (b.1, .pu (qd j)), by simp [plus_ok ha]⟩)
    simp [g_total_of, b_total_of, e]

/-! validators -/
def smok (q : Q) : Bool := pok q && Nat.ble q.1 q.2 && Nat.ble q.2 100
theorem is_small_ok {q : Q} (h : smok q = true) : g_is_small [qd q] = .ok (.bl true) := by
  simp only [smok, Bool.and_eq_true, Nat.ble_eq] at h
  have e := is_portion_ok q h.1.1
  have e1 : decide ((q.1 : Int) ≤ (q.2 : Int)) = true := decide_eq_true (by omega)
  have e2 : decide ((q.2 : Int) ≤ 100) = true := decide_eq_true (by omega)
  have e0 : decide ((0 : Int) ≤ (q.1 : Int)) = true := decide_eq_true (by omega)
  simp only [qd] at e
  simp [g_is_small, b_is_small, e, qd, e1, e2, e0, h.1.2, h.2]
theorem need_part_ok {f u : Q} (hf : smok f = true) (hu : smok u = true) (h : Nat.blt 0 f.1 = true) : g_need_part [.tup [qd f, qd u]] = .ok .non := by
  have h1 := is_small_ok hf
  have h2 := is_small_ok hu
  have h0 : decide ((0 : Int) < (f.1 : Int)) = true := decide_eq_true (by have := Nat.blt_eq.mp h; omega)
  have h3 : f.1 ≠ 0 := by have := Nat.blt_eq.mp h; omega
  have t : g_is_tuple_of [.tup [qd f, qd u], .int 2, .int 2] = .ok (.bl true) := by simp [is_tuple_of_tup]
  simp only [qd] at h1 h2 t
  simp [g_need_part, b_need_part, g_fits_mendedparts, b_fits_mendedparts, t, h1, h2, qd, eComp, loopC, fAll, fAny, allB, h3]
def longN (f u : Q) : Option Q := match plusN f u with
  | some s => quotN u s
  | none => none
theorem long_share_ok {f u z : Q} (hf : smok f = true) (hu : smok u = true) (h : Nat.blt 0 f.1 = true) (e : longN f u = some z) : g_long_share [.tup [qd f, qd u]] = .ok (qd z) := by
  have n := need_part_ok hf hu h
  unfold longN at e
  split at e
  · rename_i s es
    have p := plus_ok es
    have q := quot_ok e
    simp [g_long_share, b_long_share, n, g_long_in, b_long_in, p, q]
  · cases e
/-! good counts -/
def chok (q : Q) : Bool := pok q && Nat.ble q.1 q.2 && Nat.ble q.2 1000
theorem is_chance_ok {q : Q} (h : chok q = true) : g_is_chance [qd q] = .ok (.bl true) := by
  simp only [chok, Bool.and_eq_true, Nat.ble_eq] at h
  have e := is_portion_ok q h.1.1
  have e1 : decide ((q.1 : Int) ≤ (q.2 : Int)) = true := decide_eq_true (by omega)
  have e2 : decide ((q.2 : Int) ≤ 1000) = true := decide_eq_true (by omega)
  have e0 : decide ((0 : Int) ≤ (q.1 : Int)) = true := decide_eq_true (by omega)
  simp only [qd] at e
  simp [g_is_chance, b_is_chance, e, qd, e1, e2, e0, h.1.2, h.2]
theorem allB_map {α : Type} (f : α → Bool) : ∀ xs : List α, allB (xs.map fun x => D.bl (f x)) = some (xs.map f)
  | [] => rfl
  | x :: xs => by simp only [List.map_cons, allB, allB_map f xs]; rfl
theorem mapO_some {ι γ : Type} {φ : ι → γ} : ∀ xs : List ι, mapO (fun x => some (φ x)) xs = some (xs.map φ)
  | [] => rfl
  | x :: xs => by simp only [mapO, mapO_some xs, List.map_cons]
theorem need_parts_ok {xs : List Q} (hl : xs.length ≤ 12) (h : xs.all chok = true) : g_need_parts [.tup (xs.map qd)] = .ok .non := by
  have t : g_is_tuple_of [.tup (xs.map qd), .int 0, .int 12] = .ok (.bl true) := by
    have h0 : decide ((0 : Int) ≤ (xs.length : Int)) = true := decide_eq_true (by omega)
    have h1 : decide ((xs.length : Int) ≤ 12) = true := decide_eq_true (by omega)
    simp [is_tuple_of_tup, h0, h1]
  have c := eComp_filter (vs := [1]) (src := CS1_need_parts) (tgt := CT1_need_parts) (test := CP1_need_parts) (elt := CE1_need_parts) qd (fun _ => true) (fun _ => D.bl true) (xs := xs) (ε := [.pu (.tup (xs.map qd)), .em]) (ε1 := [.pu (.tup (xs.map qd)), .em]) (by simp) rfl (by omega) (by simp) (fun j hj => by
    have hc := is_chance_ok (List.all_eq_true.mp h j hj)
    simp [hc])
  have fb : fAll [.lst ((xs.filter fun _ => true).map fun _ => D.bl true)] = .ok (.bl true) := by
    have := allB_map (fun _ : Q => true) (xs.filter fun _ => true)
    simp only [fAll, this]
    simp
  simp [g_need_parts, b_need_parts, t, c, fb]
def restG (x : Q) : Q := (x.2 - x.1, x.2)
theorem restG_ok {x : Q} (h : x.1 ≤ x.2) : g_rest_of_goodcounts [qd x] = .ok (qd (restG x)) := by
  have e : (x.2 : Int) - (x.1 : Int) = ((x.2 - x.1 : Nat) : Int) := by omega
  simp [g_rest_of_goodcounts, b_rest_of_goodcounts, qd, restG, e]
def stepC (found : List Q) (chance : Q) : Option (List Q) := mapO (fun p : Q × Q => match timesN p.1 chance with
  | some a => match timesN p.2 (restG chance) with
    | some b => plusN a b
    | none => none
  | none => none) ((((0, 1) : Q) :: found).zip (found ++ [((0, 1) : Q)]))
def countsN (parts : List Q) : Option (List Q) := foldO (fun f c => if Nat.ble c.1 c.2 && Nat.ble f.length 1000 then stepC f c else none) parts [(1, 1)]
theorem counts_in_ok {xs : List Q} {cs : List Q} (h : countsN xs = some cs) : g_counts_in [.tup (xs.map qd)] = .ok (.lst (cs.map qd)) := by
  obtain ⟨b, e⟩ := sFor_fold (src := S1_counts_in) (tgt := T1_counts_in) (body := B1_counts_in) qd _ (fun (a : List Q) (b : Option D × Option D × Option D) => [.pu (.tup (xs.map qd)), .pu (.lst (a.map qd)), jk b.1, jk b.2.1, jk b.2.2, .em, .em])
    (ε := [.pu (.tup (xs.map qd)), .pu (.lst [.tup [.int 1, .int 1]]), .em, .em, .em, .em, .em]) (b := (none, none, none)) h (by simp; rfl) rfl rfl
    (fun a b j a' ha => ⟨_, by simp; rfl, (some (qd j), some (.lst ((((0, 1) : Q) :: a).map qd)), some (.lst ((a ++ [((0, 1) : Q)]).map qd))), by
      split at ha
      · rename_i hh
        simp only [Bool.and_eq_true, Nat.ble_eq] at hh
        have c := eComp_map (vs := [5, 6]) (src := CS1_counts_in) (tgt := CT1_counts_in) (test := CP1_counts_in) (elt := CE1_counts_in) (fun p : Q × Q => .tup [qd p.1, qd p.2]) _ qd (ε := [.pu (.tup (xs.map qd)), .pu (.lst (a.map qd)), .pu (qd j), .pu (.lst ((((0, 1) : Q) :: a).map qd)), .pu (.lst ((a ++ [((0, 1) : Q)]).map qd)), .em, .em]) ha (by simp only [CS1_counts_in, iCall, aCons, eV, getPu, List.getElem?_cons_succ, List.getElem?_cons_zero, Res.bind_ok, aNil, fZip]; rfl) (zipD_map _ _ _ _) (by simp; omega) (by simp)
          (fun p q hq => by
            split at hq
            · rename_i y ey
              split at hq
              · rename_i z ez
                have t1 := times_ok ey
                have t2 := times_ok ez
                have t3 := plus_ok hq
                have t4 := restG_ok hh.1
                simp [t1, t2, t3, t4]
              · cases hq
            · cases hq)
        have q0 : D.tup [D.int 0, D.int 1] = qd (0, 1) := rfl
        have l1 : a.length ≤ 999999 := by omega
        have l2 : 1 + a.length ≤ 1000000 := by omega
        simp only [List.map_cons, List.map_append, List.map_nil] at c
        simp [dCat, q0, l1, l2, c]
      · cases ha⟩)
  simp [g_counts_in, b_counts_in, e]
theorem need_whole_ok {v lo hi : Int} (h1 : lo ≤ v) (h2 : v ≤ hi) : g_need_whole [.int v, .int lo, .int hi] = .ok .non := by
  simp [g_need_whole, b_need_whole, is_whole_int, h1, h2]
theorem count_chances_ok {xs cs : List Q} (hl : xs.length ≤ 12) (h : xs.all chok = true) (e : countsN xs = some cs) : g_count_chances [.tup (xs.map qd)] = .ok (.tup (cs.map qd)) := by
  simp [g_count_chances, b_count_chances, need_parts_ok hl h, counts_in_ok e]
theorem at_least_ok {xs cs : List Q} {k : Nat} {z : Q} (hl : xs.length ≤ 12) (h : xs.all chok = true) (e : countsN xs = some cs) (hk : k ≤ 13) (ez : totN (cs.drop k) = some z) : g_at_least [.tup (xs.map qd), .int (k : Int)] = .ok (qd z) := by
  have w := need_whole_ok (v := (k : Int)) (lo := 0) (hi := 13) (by omega) (by omega)
  have t := (total_of_ok ez).2
  rw [List.map_drop] at t
  simp [g_at_least, b_at_least, need_parts_ok hl h, counts_in_ok e, w, cutD_drop, t]
theorem mean_good_ok {xs : List Q} {z : Q} (hl : xs.length ≤ 12) (h : xs.all chok = true) (ez : totN xs = some z) : g_mean_good [.tup (xs.map qd)] = .ok (qd z) := by
  simp [g_mean_good, b_mean_good, need_parts_ok hl h, (total_of_ok ez).1]
/-! ladders -/
def ladD (n m : Nat) (f u : Q) : D := .tup [.int (n : Int), .int (m : Int), qd f, qd u]
def rok (q : Q) : Bool := pok q && Nat.ble 1 q.1 && Nat.ble q.1 100 && Nat.ble q.2 100
theorem is_rate_ok {q : Q} (h : rok q = true) : g_is_rate [qd q] = .ok (.bl true) := by
  simp only [rok, Bool.and_eq_true, Nat.ble_eq] at h
  have e := is_portion_ok q h.1.1.1
  have e1 : (1 : Int) ≤ (q.1 : Int) := by omega
  have e2 : (q.1 : Int) ≤ 100 := by omega
  have e3 : (q.2 : Int) ≤ 100 := by omega
  simp only [qd] at e
  simp [g_is_rate, b_is_rate, e, qd, e1, e2, e3]
def lok (n m : Nat) (f u : Q) : Bool := Nat.ble 1 n && Nat.ble n 8 && Nat.ble 1 m && Nat.ble m n && rok f && rok u
theorem need_ladder_ok {n m : Nat} {f u : Q} (h : lok n m f u = true) : g_need_ladder [ladD n m f u] = .ok .non := by
  simp only [lok, Bool.and_eq_true, Nat.ble_eq] at h
  obtain ⟨⟨⟨⟨⟨h1, h2⟩, h3⟩, h4⟩, h5⟩, h6⟩ := h
  have r1 := is_rate_ok h5
  have r2 := is_rate_ok h6
  have t : g_is_tuple_of [ladD n m f u, .int 4, .int 4] = .ok (.bl true) := by simp [ladD, is_tuple_of_tup]
  have w1 : g_is_whole [.int (n : Int), .int 1, .int 8] = .ok (.bl true) := by
    have a : (1 : Int) ≤ (n : Int) := by omega
    have b : (n : Int) ≤ 8 := by omega
    simp [is_whole_int, a, b]
  have w2 : g_is_whole [.int (m : Int), .int 1, .int (n : Int)] = .ok (.bl true) := by
    have a : (1 : Int) ≤ (m : Int) := by omega
    have b : m ≤ n := h4
    simp [is_whole_int, a, b]
  simp only [ladD] at t
  simp [g_need_ladder, b_need_ladder, g_fits_mendladders, b_fits_mendladders, t, ladD, w1, w2, r1, r2]
abbrev fd (p : Q × Q) : D := .tup [qd p.1, qd p.2]
def flN (n m : Nat) (f u : Q) (k : Nat) : Option (Q × Q) := if Nat.ble k n then (match timesN (k, 1) f with
  | some a => match timesN (min (n - k) m, 1) u with
    | some b => some (a, b)
    | none => none
  | none => none) else none
def flowsN (n m : Nat) (f u : Q) : Option (List (Q × Q)) := mapO (flN n m f u) (List.range (n + 1))
theorem flows_in_ok {n m : Nat} {f u : Q} {fl : List (Q × Q)} (hn : n ≤ 1000) (h : flowsN n m f u = some fl) : g_flows_in [ladD n m f u] = .ok (.lst (fl.map fd)) := by
  have hr : fRange [.int ((n : Int) + 1)] = _ := fRange1 (k := n + 1) (by omega) (by omega)
  have c := eComp_map (vs := [5]) (src := CS1_flows_in) (tgt := CT1_flows_in) (test := CP1_flows_in) (elt := CE1_flows_in) (fun i : Nat => D.int (i : Int)) _ fd (ε := [.pu (ladD n m f u), .pu (.int (n : Int)), .pu (.int (m : Int)), .pu (qd f), .pu (qd u), .em]) (ε1 := [.pu (ladD n m f u), .pu (.int (n : Int)), .pu (.int (m : Int)), .pu (qd f), .pu (qd u), .em]) h
    (iCall_ok (g := fRange) (fs := aCons (eOp dAdd (eV 1) (eC (.int 1))) aNil) (by simp) hr) rfl (by simp; omega) (by simp) (fun k p hp => by
      unfold flN at hp
      split at hp
      · rename_i hk
        have hk' : k ≤ n := Nat.ble_eq.mp hk
        split at hp
        · rename_i a ea
          split at hp
          · rename_i b eb
            cases hp
            have t1 := times_ok ea
            have t2 := times_ok eb
            have em : (if (m : Int) < (n : Int) - (k : Int) then (m : Int) else (n : Int) - (k : Int)) = ((min (n - k) m : Nat) : Int) := by
              split <;> omega
            simp only [qd, Int.natCast_one] at t1 t2
            simp [em, t1, t2, qd]
          · cases hp
        · cases hp
      · cases hp)
  show outRes (sSeq _ _ (startE 6 [ladD n m f u])) = _
  exact out_seq (by simp [ladD]) (out_retL c)
def pstep (a : (List Q × Q) × Q) (x : (Q × Q) × (Q × Q)) : Option ((List Q × Q) × Q) := match timesN a.1.2 x.1.2 with
  | some t => match quotN t x.2.1 with
    | some p => match plusN a.2 p with
      | some w => if Nat.ble a.1.1.length 1000 then some ((a.1.1 ++ [a.1.2], p), w) else none
      | none => none
    | none => none
  | none => none
def sharesN (n m : Nat) (f u : Q) : Option (List Q) := match flowsN n m f u with
  | some fl => match foldO pstep (fl.zip (fl.drop 1)) (([], (1, 1)), (1, 1)) with
    | some r => if Nat.ble r.1.1.length 1000 then mapO (fun p => quotN p r.2) (r.1.1 ++ [r.1.2]) else none
    | none => none
  | none => none
theorem atI_lastq (xs : List Q) (q : Q) : atI (xs.map qd ++ [qd q]) (-1) = some (qd q) := L2.atI_last _ _
theorem shares_in_ok {n m : Nat} {f u : Q} {S : List Q} (hn : n ≤ 1000) (h : sharesN n m f u = some S) : g_shares_in [ladD n m f u] = .ok (.lst (S.map qd)) := by
  unfold sharesN at h
  split at h
  case h_2 => cases h
  rename_i fl efl
  split at h
  case h_2 => cases h
  rename_i r er
  split at h
  case isFalse => cases h
  rename_i hl
  replace hl := Nat.ble_eq.mp hl
  have fi := flows_in_ok hn efl
  obtain ⟨b, e⟩ := sFor_fold (src := S1_shares_in) (tgt := T1_shares_in) (body := B1_shares_in) (fun p : (Q × Q) × (Q × Q) => D.tup [fd p.1, fd p.2]) _ (fun (a : (List Q × Q) × Q) (b : Option D × Option D × Option D × Option D) => [.pu (ladD n m f u), .pu (.lst (fl.map fd)), .ow ((a.1.1 ++ [a.1.2]).map qd), .pu (qd a.2), jk b.1, jk b.2.1, jk b.2.2.1, jk b.2.2.2, .em])
    (ε := [.pu (ladD n m f u), .pu (.lst (fl.map fd)), .ow [qd (1, 1)], .pu (qd (1, 1)), .em, .em, .em, .em, .em]) (b := (none, none, none, none)) er (by
      have := cutD_drop (fl.map fd) 1
      simp only [Int.natCast_one] at this
      simp [this, -dIx]) (zipD_map fd fd fl (fl.drop 1)) rfl
    (fun a b j a' ha => ⟨_, by simp; rfl, (some (qd j.1.1), some (qd j.1.2), some (qd j.2.1), some (qd j.2.2)), by
      unfold pstep at ha
      split at ha
      case h_2 => cases ha
      rename_i t et
      split at ha
      case h_2 => cases ha
      rename_i p ep
      split at ha
      case h_2 => cases ha
      rename_i w ew
      split at ha
      case isFalse => cases ha
      rename_i hz
      replace hz := Nat.ble_eq.mp hz
      cases ha
      have t1 := times_ok et
      have t2 := quot_ok ep
      have t3 := plus_ok ew
      have z1 : a.1.1.length + 1 ≤ 1000000 := by omega
      have a1 := atI_lastq a.1.1 a.1.2
      have a2 := atI_lastq (a.1.1 ++ [a.1.2]) p
      simp only [List.map_append, List.map_cons, List.map_nil, List.append_assoc, List.singleton_append] at a1 a2
      simp [-s_atI, -s_ixN, a1, a2, t1, t2, t3, z1]⟩)
  have c := eComp_map (vs := [8]) (src := CS1_shares_in) (tgt := CT1_shares_in) (test := CP1_shares_in) (elt := CE1_shares_in) qd _ qd (ε := [.pu (ladD n m f u), .pu (.lst (fl.map fd)), .ow ((r.1.1 ++ [r.1.2]).map qd), .pu (qd r.2), jk b.1, jk b.2.1, jk b.2.2.1, jk b.2.2.2, .em]) (ε1 := [.pu (ladD n m f u), .pu (.lst (fl.map fd)), .pu (.lst ((r.1.1 ++ [r.1.2]).map qd)), .pu (qd r.2), jk b.1, jk b.2.1, jk b.2.2.1, jk b.2.2.2, .em]) h
    (by simp) rfl (by simp; omega) (by simp) (fun p q hq => by
      have t := quot_ok hq
      simp [t])
  show outRes (sSeq _ _ (startE 9 [ladD n m f u])) = _
  refine out_seq (ε1 := [.pu (ladD n m f u), .pu (.lst (fl.map fd)), .ow [qd (1, 1)], .pu (qd (1, 1)), .em, .em, .em, .em, .em]) (by simp [fi]; rfl) (out_seq e (out_retL c))
theorem ladder_shares_ok {n m : Nat} {f u : Q} {S : List Q} (hl : lok n m f u = true) (h : sharesN n m f u = some S) : g_ladder_shares [ladD n m f u] = .ok (.tup (S.map qd)) := by
  have hn : n ≤ 1000 := by
    simp only [lok, Bool.and_eq_true, Nat.ble_eq] at hl
    omega
  simp [g_ladder_shares, b_ladder_shares, need_ladder_ok hl, shares_in_ok hn h]
def meanN (S : List Q) : Option Q := foldO (fun a p => match timesN (p.2, 1) p.1 with
  | some t => plusN a t
  | none => none) S.zipIdx (0, 1)
theorem mean_up_ok {n m : Nat} {f u z : Q} {S : List Q} (hl : lok n m f u = true) (h : sharesN n m f u = some S) (hz : meanN S = some z) : g_mean_up [ladD n m f u] = .ok (qd z) := by
  have hn : n ≤ 1000 := by
    simp only [lok, Bool.and_eq_true, Nat.ble_eq] at hl
    omega
  have si := shares_in_ok hn h
  have nl := need_ladder_ok hl
  obtain ⟨b, e⟩ := sFor_fold (src := S1_mean_up) (tgt := T1_mean_up) (body := B1_mean_up) (fun p : Q × Nat => D.tup [.int (p.2 : Int), qd p.1]) _ (fun (a : Q) (b : Option D × Option D) => [.pu (ladD n m f u), .pu (qd a), jk b.1, jk b.2])
    (ε := [.pu (ladD n m f u), .pu (qd (0, 1)), .em, .em]) (b := (none, none)) hz (by simp [si]) (enumD_map qd S 0) rfl
    (fun a b j a' ha => ⟨_, by simp; rfl, (some (.int (j.2 : Int)), some (qd j.1)), by
      split at ha
      case h_2 => cases ha
      rename_i t et
      have t1 := times_ok et
      have t2 := plus_ok ha
      have q0 : D.tup [D.int (j.2 : Int), D.int 1] = qd (j.2, 1) := rfl
      simp [q0, t1, t2]⟩)
  show outRes (sSeq _ _ (startE 4 [ladD n m f u])) = _
  exact out_seq (ε1 := [.pu (ladD n m f u), .em, .em, .em]) (by simp [nl]) (out_seq (ε1 := [.pu (ladD n m f u), .pu (qd (0, 1)), .em, .em]) (by simp; rfl) (out_seq e (out_ret (by simp; rfl))))
theorem share_from_ok {n m k : Nat} {f u z : Q} {S : List Q} (hl : lok n m f u = true) (h : sharesN n m f u = some S) (hk : k ≤ 8) (hz : totN (S.drop k) = some z) : g_share_from [ladD n m f u, .int (k : Int)] = .ok (qd z) := by
  have hn : n ≤ 1000 := by
    simp only [lok, Bool.and_eq_true, Nat.ble_eq] at hl
    omega
  have si := shares_in_ok hn h
  have nl := need_ladder_ok hl
  have w := need_whole_ok (v := (k : Int)) (lo := 0) (hi := 8) (by omega) (by omega)
  obtain ⟨b, e⟩ := sFor_fold (src := S1_share_from) (tgt := T1_share_from) (body := B1_share_from) qd _ (fun (a : Q) (b : Option D) => [.pu (ladD n m f u), .pu (.int (k : Int)), .pu (qd a), jk b])
    (ε := [.pu (ladD n m f u), .pu (.int (k : Int)), .pu (qd (0, 1)), .em]) (b := none) (ys := (S.map qd).drop k) hz (by simp [si, cutD_drop]) (by simp) rfl
    (fun a b j a' ha => ⟨_, by simp; rfl, some (qd j), by simp [plus_ok ha]⟩)
  show outRes (sSeq _ _ (startE 4 [ladD n m f u, .int (k : Int)])) = _
  exact out_seq (ε1 := [.pu (ladD n m f u), .pu (.int (k : Int)), .em, .em]) (by simp [nl]) (out_seq (ε1 := [.pu (ladD n m f u), .pu (.int (k : Int)), .em, .em]) (by simp [w]) (out_seq (ε1 := [.pu (ladD n m f u), .pu (.int (k : Int)), .pu (qd (0, 1)), .em]) (by simp; rfl) (out_seq e (out_ret (by simp; rfl)))))
/-! the law's first part -/
theorem rep_tup (q : Q) (n : Nat) : (List.replicate n [qd q]).flatten = (List.replicate n q).map qd := by
  induction n with
  | zero => rfl
  | succ n ih => simp [List.replicate_succ, ih]
def rightN (n : Nat) (f u : Q) : Bool := lok n n f u && smok f && smok u && Nat.blt 0 f.1 && (match longN f u with
  | some p => chok p && (match sharesN n n f u with
    | some S => match countsN (List.replicate n p) with
      | some C => decide (S = C) && (match meanN S with
        | some z => match totN (List.replicate n p) with
          | some w => decide (z = w)
          | none => false
        | none => false) && (List.range 9).all fun k => (totN (S.drop k)).isSome
      | none => false
    | none => false)
  | none => false)
theorem dEq_nil : dEq (.lst []) (.lst []) = .ok (.bl true) := by simp [dEq, D.okq, D.okqL, dEqv, D.pyd, D.pydL, PyData.eqv, PyData.eqvAll]
theorem ladder_right_ok {n : Nat} {f u : Q} (h : rightN n f u = true) : g__law_ladder_right [.int (n : Int), qd f, qd u] = .ok (.bl true) := by
  unfold rightN at h
  simp only [Bool.and_eq_true] at h
  obtain ⟨⟨⟨⟨hl, hf⟩, hu⟩, h0⟩, h⟩ := h
  split at h
  case h_2 => cases h
  rename_i p ep
  simp only [Bool.and_eq_true] at h
  obtain ⟨hc, h⟩ := h
  split at h
  case h_2 => cases h
  rename_i S eS
  split at h
  case h_2 => cases h
  rename_i C eCC
  simp only [Bool.and_eq_true, decide_eq_true_eq] at h
  obtain ⟨⟨e1, h2⟩, h3⟩ := h
  subst e1
  split at h2
  case h_2 => cases h2
  rename_i z ez
  split at h2
  case h_2 => cases h2
  rename_i w ew
  replace h2 := of_decide_eq_true h2
  subst h2
  have hn : n ≤ 8 := by
    simp only [lok, Bool.and_eq_true, Nat.ble_eq] at hl
    omega
  have hlen : (List.replicate n p).length ≤ 12 := by simp; omega
  have hall : (List.replicate n p).all chok = true := by simp [hc]
  have ls := long_share_ok hf hu h0 ep
  have a1 := ladder_shares_ok hl eS
  have a2 := count_chances_ok hlen hall eCC
  have a3 := mean_up_ok hl eS ez
  have a4 := mean_good_ok hlen hall ew
  have r1 : (n : Int) ≤ 1000 ∧ (-1000 : Int) ≤ (n : Int) ∧ 1 ≤ 1000 := by omega
  have c := eComp_filter (vs := [6]) (src := CS1__law_ladder_right) (tgt := CT1__law_ladder_right) (test := CP1__law_ladder_right) (elt := CE1__law_ladder_right) (fun k : Nat => D.int (k : Int)) (fun _ => false) (fun k : Nat => D.int (k : Int)) (xs := List.range 9)
    (ε := [.pu (.int (n : Int)), .pu (qd f), .pu (qd u), .pu (ladD n n f u), .pu (qd p), .pu (.tup ((List.replicate n p).map qd)), .em]) (ε1 := [.pu (.int (n : Int)), .pu (qd f), .pu (qd u), .pu (ladD n n f u), .pu (qd p), .pu (.tup ((List.replicate n p).map qd)), .em])
    (iCall_ok (g := fRange) (fs := aCons (eC (.int 9)) aNil) (ds := [.int 9]) (by simp) (fRange1 (k := 9) (by rfl) (by omega))) rfl (by simp) (by simp) (fun k hk => by
      have hk9 : k < 9 := List.mem_range.mp hk
      have h4 := List.all_eq_true.mp h3 k hk
      cases e : totN (S.drop k) with
      | none => rw [e] at h4; cases h4
      | some t =>
        have b1 := share_from_ok hl eS (k := k) (by omega) e
        have b2 := at_least_ok hlen hall eCC (k := k) (by omega) e
        simp [b1, b2, dNe_q, -List.map_replicate])
  have r2 : dMul (.tup [qd p]) (.int (n : Int)) = .ok (.tup ((List.replicate n p).map qd)) := by
    have c1 : (n : Int) ≤ 1000 ∧ (-1000 : Int) ≤ (n : Int) ∧ [qd p].length ≤ 1000 := ⟨by omega, by omega, by simp⟩
    simp only [dMul]
    rw [if_pos c1, Int.toNat_natCast, rep_tup]
  have g0 : (List.filter (fun _ : Nat => false) (List.range 9)).map (fun k : Nat => D.int (k : Int)) = [] := by simp
  rw [g0] at c
  show outRes (sSeq _ _ (startE 7 [.int (n : Int), qd f, qd u])) = _
  refine out_seq (ε1 := [.pu (.int (n : Int)), .pu (qd f), .pu (qd u), .pu (ladD n n f u), .pu (qd p), .em, .em]) (by simp [ls, ladD]) (out_seq (ε1 := [.pu (.int (n : Int)), .pu (qd f), .pu (qd u), .pu (ladD n n f u), .pu (qd p), .pu (.tup ((List.replicate n p).map qd)), .em]) (by simp [r2, -List.map_replicate]) (out_seq (ε1 := [.pu (.int (n : Int)), .pu (qd f), .pu (qd u), .pu (ladD n n f u), .pu (qd p), .pu (.tup ((List.replicate n p).map qd)), .em]) (by simp [a1, a2, a3, a4, dNe_tq, dNe_q, -List.map_replicate]) (out_ret (ε1 := [.pu (.int (n : Int)), .pu (qd f), .pu (qd u), .pu (ladD n n f u), .pu (qd p), .pu (.tup ((List.replicate n p).map qd)), .em]) (by simp [c, dEq_nil, -List.map_replicate]))))
end W92
namespace W92
open PySem L2 PL

theorem low_ret {t b : Int} {x : Nat} {j : Slot} (hb : 0 < b) (hx : divOk (x : Int) = true) : B1__law_low [.pu (.int t), .pu (.int b), .pu (.int (x : Int)), .pu (.int ((0 : Nat) : Int)), j] = .rt (.tup [.int (t.fdiv x), .int (b.fdiv x)]) [.pu (.int t), .pu (.int b), .pu (.int (x : Int)), .pu (.int ((0 : Nat) : Int)), j] := by
  simp [dEq_int, hb, dDiv, hx]
theorem low_step {t b : Int} {x y : Nat} {j : Slot} (hy : y ≠ 0) : B1__law_low [.pu (.int t), .pu (.int b), .pu (.int (x : Int)), .pu (.int (y : Int)), j] = .nx [.pu (.int t), .pu (.int b), .pu (.int (y : Int)), .pu (.int ((x % y : Nat) : Int)), j] := by
  have e : (x : Int).fmod (y : Int) = ((x % y : Nat) : Int) := by rw [Int.fmod_eq_emod_of_nonneg _ (by omega)]; simp
  have hy' : (y : Int) ≠ 0 := by omega
  simp [dEq_int, hy, hy', dMod, fInt, e]
theorem low_loop {t b : Int} {g : Nat} (hb : 0 < b) (hg : divOk (g : Int) = true) : ∀ (k x y : Nat) (xs : List D) (j : Slot), y < 2 ^ k → Nat.gcd x y = g → 2 * k + 1 ≤ xs.length → ∃ ε', forF T1__law_low B1__law_low xs [.pu (.int t), .pu (.int b), .pu (.int (x : Int)), .pu (.int (y : Int)), j] = .rt (.tup [.int (t.fdiv g), .int (b.fdiv g)]) ε' := by
  have stop : ∀ (x : Nat) (xs : List D) (j : Slot), Nat.gcd x 0 = g → 1 ≤ xs.length → ∃ ε', forF T1__law_low B1__law_low xs [.pu (.int t), .pu (.int b), .pu (.int (x : Int)), .pu (.int ((0 : Nat) : Int)), j] = .rt (.tup [.int (t.fdiv g), .int (b.fdiv g)]) ε' := by
    intro x xs j e hl
    cases xs with
    | nil => simp at hl
    | cons d xs =>
      rw [Nat.gcd_zero_right] at e
      subst e
      have t1 : T1__law_low d [.pu (.int t), .pu (.int b), .pu (.int (x : Int)), .pu (.int ((0 : Nat) : Int)), j] = .ok [.pu (.int t), .pu (.int b), .pu (.int (x : Int)), .pu (.int ((0 : Nat) : Int)), .pu d] := by simp
      refine ⟨[.pu (.int t), .pu (.int b), .pu (.int (x : Int)), .pu (.int ((0 : Nat) : Int)), .pu d], ?_⟩
      simp only [forF, t1, Res.ne, low_ret hb hg]
  intro k
  induction k with
  | zero =>
    intro x y xs j hy e hl
    have : y = 0 := by simpa using hy
    subst this
    exact stop x xs j e (by omega)
  | succ k ih =>
    intro x y xs j hy e hl
    by_cases h0 : y = 0
    · subst h0
      exact stop x xs j e (by omega)
    · cases xs with
      | nil => simp at hl
      | cons d xs =>
        have t1 : T1__law_low d [.pu (.int t), .pu (.int b), .pu (.int (x : Int)), .pu (.int (y : Int)), j] = .ok [.pu (.int t), .pu (.int b), .pu (.int (x : Int)), .pu (.int (y : Int)), .pu d] := by simp
        simp only [forF, t1, Res.ne, low_step h0]
        have e2 : Nat.gcd y (x % y) = g := by rw [← e, Nat.gcd_comm y, ← Nat.gcd_rec, Nat.gcd_comm]
        simp only [List.length_cons] at hl
        by_cases h1 : x % y = 0
        · rw [h1] at e2 ⊢
          exact stop y xs (.pu d) e2 (by omega)
        · cases xs with
          | nil => simp at hl
          | cons d2 xs =>
            have t2 : T1__law_low d2 [.pu (.int t), .pu (.int b), .pu (.int (y : Int)), .pu (.int ((x % y : Nat) : Int)), .pu d] = .ok [.pu (.int t), .pu (.int b), .pu (.int (y : Int)), .pu (.int ((x % y : Nat) : Int)), .pu d2] := by simp
            simp only [forF, t2, Res.ne, low_step h1]
            have e3 : Nat.gcd (x % y) (y % (x % y)) = g := by rw [← e2, Nat.gcd_comm (x % y), ← Nat.gcd_rec, Nat.gcd_comm]
            simp only [List.length_cons] at hl
            refine ih (x % y) (y % (x % y)) xs (.pu d2) ?_ e3 (by omega)
            have l1 : x % y < y := Nat.mod_lt _ (by omega)
            have l2 : y % (x % y) < x % y := Nat.mod_lt _ (by omega)
            have l3 := Nat.div_add_mod y (x % y)
            have l4 : 1 ≤ y / (x % y) := Nat.div_pos (by omega) (by omega)
            have l5 : x % y ≤ (x % y) * (y / (x % y)) := Nat.le_mul_of_pos_right _ (by omega)
            rw [Nat.pow_succ] at hy
            omega
theorem law_low_ok {t b : Int} (hb : 0 < b) (hs : b < 2 ^ 900) : g__law_low [.int t, .int b] = .ok (.tup [.int (t.fdiv (Nat.gcd t.natAbs b.natAbs : Nat)), .int (b.fdiv (Nat.gcd t.natAbs b.natAbs : Nat))]) := by
  have hb2 : b.natAbs < 2 ^ 900 := by omega
  have g0 : 0 < Nat.gcd t.natAbs b.natAbs := Nat.gcd_pos_of_pos_right _ (by omega)
  have hg : divOk ((Nat.gcd t.natAbs b.natAbs : Nat) : Int) = true := by
    have h3 : Nat.gcd t.natAbs b.natAbs ≤ b.natAbs := Nat.gcd_le_right _ (by omega)
    simp only [divOk, Int.natAbs_natCast, decide_eq_true_eq]
    refine ⟨by omega, ?_⟩
    rw [Nat.log2_lt (by omega)]
    exact Nat.lt_of_le_of_lt h3 (Nat.lt_of_lt_of_le hb2 (Nat.pow_le_pow_right (by decide) (by decide)))
  have ea : ∀ x : Int, (if x < 0 then -x else x) = (x.natAbs : Int) := fun x => by split <;> omega
  obtain ⟨ε', e⟩ := low_loop (t := t) hb hg 900 t.natAbs b.natAbs ((List.range 2000).map fun i : Nat => D.int (i : Int)) .em hb2 rfl (by simp)
  have s1 : S1__law_low [.pu (.int t), .pu (.int b), .pu (.int (t.natAbs : Int)), .pu (.int (b.natAbs : Int)), .em] = .ok ((List.range 2000).map fun i : Nat => D.int (i : Int), [.pu (.int t), .pu (.int b), .pu (.int (t.natAbs : Int)), .pu (.int (b.natAbs : Int)), .em]) :=
    iCall_ok (g := fRange) (fs := aCons (eC (.int 2000)) aNil) (ds := [.int 2000]) (by simp) (fRange1 (k := 2000) (by rfl) (by omega))
  show outRes (sSeq _ _ (startE 5 [.int t, .int b])) = _
  refine out_seq (ε1 := [.pu (.int t), .pu (.int b), .pu (.int (t.natAbs : Int)), .pu (.int (b.natAbs : Int)), .em]) (by simp [fAbs, ea]) ?_
  simp only [sSeq, sFor, s1, Res.out, e, Out.andThen, outRes]

def downStep (a : List Q × Q) (x : Q × Q) : Option (List Q × Q) := match timesN x.2 a.2 with
  | some t => match plusN (1, 1) t with
    | some s => match quotN s x.1 with
      | some r => if Nat.ble a.1.length 50 then some (a.1 ++ [r], r) else none
      | none => none
    | none => none
  | none => none
def downN (fl : List (Q × Q)) : Option (List Q) := if Nat.ble fl.length 50 then (match foldO downStep (fl.drop 1).reverse ([], (0, 1)) with
  | some r => if Nat.ble r.1.length 50 then some r.1.reverse else none
  | none => none) else none
theorem steps_down_ok {fl : List (Q × Q)} {L : List Q} (h : downN fl = some L) : g_steps_down [.lst (fl.map fd)] = .ok (.lst (L.map qd)) := by
  unfold downN at h
  split at h
  case isFalse => cases h
  rename_i hz
  replace hz := Nat.ble_eq.mp hz
  split at h
  case h_2 => cases h
  rename_i r er
  split at h
  case isFalse => cases h
  rename_i hr
  replace hr := Nat.ble_eq.mp hr
  cases h
  have bd := back_down (ds := fl.map fd) (by simp; omega)
  have ba := back_all (ds := r.1.map qd) (by simp; omega)
  obtain ⟨b, e⟩ := sFor_fold (src := S1_steps_down) (tgt := T1_steps_down) (body := B1_steps_down) fd _ (fun (a : List Q × Q) (b : Option D × Option D) => [.pu (.lst (fl.map fd)), .ow (a.1.map qd), .pu (qd a.2), jk b.1, jk b.2])
    (ε := [.pu (.lst (fl.map fd)), .ow [], .pu (qd (0, 1)), .em, .em]) (b := (none, none)) (ys := ((fl.map fd).drop 1).reverse) er (by simp [eBack, oN, bd, -List.drop_one]) (by simp) rfl
    (fun a b j a' ha => ⟨_, by simp; rfl, (some (qd j.1), some (qd j.2)), by
      unfold downStep at ha
      split at ha
      case h_2 => cases ha
      rename_i t et
      split at ha
      case h_2 => cases ha
      rename_i s es
      split at ha
      case h_2 => cases ha
      rename_i r er
      split at ha
      case isFalse => cases ha
      rename_i hz
      replace hz := Nat.ble_eq.mp hz
      cases ha
      have t1 := times_ok et
      have t2 := plus_ok es
      have t3 := quot_ok er
      have z1 : a.1.length ≤ 1000000 := by omega
      have q0 : D.tup [D.int 1, D.int 1] = qd (1, 1) := rfl
      simp [t1, t2, t3, z1, q0]⟩)
  show outRes (sSeq _ _ (startE 5 [.lst (fl.map fd)])) = _
  exact out_seq (ε1 := [.pu (.lst (fl.map fd)), .ow [], .pu (qd (0, 1)), .em, .em]) (by simp; rfl) (out_seq e (out_ret (ε1 := [.pu (.lst (fl.map fd)), .pu (.lst (r.1.map qd)), .pu (qd r.2), jk b.1, jk b.2]) (by simp [eBack, oN, ba])))
def upStep (a : List Q × Q) (x : Q × Q) : Option (List Q × Q) := match timesN x.1 a.2 with
  | some t => match plusN (1, 1) t with
    | some s => match quotN s x.2 with
      | some r => if Nat.ble a.1.length 50 then some (a.1 ++ [r], r) else none
      | none => none
    | none => none
  | none => none
def upN (fl : List (Q × Q)) : Option (List Q) := match foldO upStep fl.dropLast ([], (0, 1)) with
  | some r => some r.1
  | none => none
theorem steps_up_ok {fl : List (Q × Q)} {L : List Q} (h : upN fl = some L) : g_steps_up [.lst (fl.map fd)] = .ok (.lst (L.map qd)) := by
  unfold upN at h
  split at h
  case h_2 => cases h
  rename_i r er
  cases h
  obtain ⟨b, e⟩ := sFor_fold (src := S1_steps_up) (tgt := T1_steps_up) (body := B1_steps_up) fd _ (fun (a : List Q × Q) (b : Option D × Option D) => [.pu (.lst (fl.map fd)), .ow (a.1.map qd), .pu (qd a.2), jk b.1, jk b.2])
    (ε := [.pu (.lst (fl.map fd)), .ow [], .pu (qd (0, 1)), .em, .em]) (b := (none, none)) (ys := (fl.map fd).dropLast) er (by simp [cutD_init]) (by simp) rfl
    (fun a b j a' ha => ⟨_, by simp; rfl, (some (qd j.1), some (qd j.2)), by
      unfold upStep at ha
      split at ha
      case h_2 => cases ha
      rename_i t et
      split at ha
      case h_2 => cases ha
      rename_i s es
      split at ha
      case h_2 => cases ha
      rename_i r er
      split at ha
      case isFalse => cases ha
      rename_i hz
      replace hz := Nat.ble_eq.mp hz
      cases ha
      have t1 := times_ok et
      have t2 := plus_ok es
      have t3 := quot_ok er
      have z1 : a.1.length ≤ 1000000 := by omega
      have q0 : D.tup [D.int 1, D.int 1] = qd (1, 1) := rfl
      simp [t1, t2, t3, z1, q0]⟩)
  show outRes (sSeq _ _ (startE 5 [.lst (fl.map fd)])) = _
  exact out_seq (ε1 := [.pu (.lst (fl.map fd)), .ow [], .pu (qd (0, 1)), .em, .em]) (by simp; rfl) (out_seq e (out_ret (by simp; rfl)))
def meansStep (lo hi : List Q) (goal : Nat) (a : List Q) (k : Nat) : Option (List Q) := match totN ((lo.take k).drop goal ++ (hi.take goal).drop k) with
  | some t => if Nat.ble a.length 50 && Nat.ble lo.length 50 && Nat.ble hi.length 50 then some (a ++ [t]) else none
  | none => none
def meansN (n : Nat) (fl : List (Q × Q)) (goal : Nat) : Option (List Q) := match downN fl with
  | some lo => match upN fl with
    | some hi => foldO (meansStep lo hi goal) (List.range (n + 1)) []
    | none => none
  | none => none
theorem means_in_ok {n m goal : Nat} {f u : Q} {fl : List (Q × Q)} {L : List Q} (hn : n ≤ 1000) (hf : flowsN n m f u = some fl) (h : meansN n fl goal = some L) : g_means_in [ladD n m f u, .int (goal : Int)] = .ok (.lst (L.map qd)) := by
  unfold meansN at h
  split at h
  case h_2 => cases h
  rename_i lo elo
  split at h
  case h_2 => cases h
  rename_i hi ehi
  have f1 := flows_in_ok hn hf
  have f2 := steps_down_ok elo
  have f3 := steps_up_ok ehi
  have hr : fRange [.int ((n : Int) + 1)] = _ := fRange1 (k := n + 1) (by omega) (by omega)
  obtain ⟨b, e⟩ := sFor_fold (src := S2_means_in) (tgt := T2_means_in) (body := B2_means_in) (fun k : Nat => D.int (k : Int)) _ (fun (a : List Q) (b : Option D × Option D × Option D) => [.pu (ladD n m f u), .pu (.int (goal : Int)), .pu (.lst (fl.map fd)), .pu (.lst (lo.map qd)), .pu (.lst (hi.map qd)), .ow (a.map qd), jk b.1, jk b.2.1, jk b.2.2])
    (ε := [.pu (ladD n m f u), .pu (.int (goal : Int)), .pu (.lst (fl.map fd)), .pu (.lst (lo.map qd)), .pu (.lst (hi.map qd)), .ow [], .em, .em, .em]) (b := (none, none, none)) h
    (iCall_ok (g := fRange) (fs := aCons (eOp dAdd (eOp dIx (eV 0) (eC (.int 0))) (eC (.int 1))) aNil) (ds := [.int ((n : Int) + 1)]) (by simp [ladD]) hr) rfl rfl
    (fun a b k a' ha => ⟨_, by simp; rfl, by
      unfold meansStep at ha
      split at ha
      case h_2 => cases ha
      rename_i t et
      split at ha
      case isFalse => cases ha
      rename_i hz
      simp only [Bool.and_eq_true, Nat.ble_eq] at hz
      cases ha
      obtain ⟨b2, e2⟩ := sFor_fold (src := S1_means_in) (tgt := T1_means_in) (body := B1_means_in) qd _ (fun (z : Q) (b' : Option D) => [.pu (ladD n m f u), .pu (.int (goal : Int)), .pu (.lst (fl.map fd)), .pu (.lst (lo.map qd)), .pu (.lst (hi.map qd)), .ow (a.map qd), .pu (.int (k : Int)), .pu (qd z), jk b'])
        (ε := [.pu (ladD n m f u), .pu (.int (goal : Int)), .pu (.lst (fl.map fd)), .pu (.lst (lo.map qd)), .pu (.lst (hi.map qd)), .ow (a.map qd), .pu (.int (k : Int)), .pu (qd (0, 1)), jk b.2.2]) (b := b.2.2) (ys := (((lo.map qd).take k).drop goal) ++ (((hi.map qd).take goal).drop k)) et
        (by
          have z2 : min k lo.length - goal + (min goal hi.length - k) ≤ 1000000 := by omega
          simp [cutD_from, dCat, z2]) (by simp) rfl
        (fun a b j a' ha => ⟨_, by simp; rfl, some (qd j), by simp [plus_ok ha]⟩)
      have z1 : a.length ≤ 1000000 := by omega
      have q0 : D.tup [D.int 0, D.int 1] = qd (0, 1) := rfl
      exact ⟨(some (.int (k : Int)), some (qd t), b2), by simp [q0, e2, z1]⟩⟩)
  show outRes (sSeq _ _ (startE 9 [ladD n m f u, .int (goal : Int)])) = _
  exact out_seq (ε1 := [.pu (ladD n m f u), .pu (.int (goal : Int)), .pu (.lst (fl.map fd)), .em, .em, .em, .em, .em, .em]) (by simp [f1]) (out_seq (ε1 := [.pu (ladD n m f u), .pu (.int (goal : Int)), .pu (.lst (fl.map fd)), .pu (.lst (lo.map qd)), .pu (.lst (hi.map qd)), .em, .em, .em, .em]) (by simp [f2, f3]) (out_seq (ε1 := [.pu (ladD n m f u), .pu (.int (goal : Int)), .pu (.lst (fl.map fd)), .pu (.lst (lo.map qd)), .pu (.lst (hi.map qd)), .ow [], .em, .em, .em]) (by simp) (out_seq e (out_ret (by simp; rfl)))))

theorem need_state_ok {n m k : Nat} {f u : Q} (hl : lok n m f u = true) (hk : k ≤ n) : g_need_state [ladD n m f u, .int (k : Int)] = .ok .non := by
  have nl := need_ladder_ok hl
  have w := need_whole_ok (v := (k : Int)) (lo := 0) (hi := (n : Int)) (by omega) (by omega)
  simp only [ladD] at nl
  simp [g_need_state, b_need_state, nl, ladD, w]
theorem mean_between_ok {n m b g : Nat} {f u z : Q} {fl : List (Q × Q)} {L : List Q} (hl : lok n m f u = true) (hb : b ≤ n) (hg : g ≤ n) (hf : flowsN n m f u = some fl) (h : meansN n fl g = some L) (hz : L[b]? = some z) : g_mean_between [ladD n m f u, .int (b : Int), .int (g : Int)] = .ok (qd z) := by
  have hn : n ≤ 1000 := by
    simp only [lok, Bool.and_eq_true, Nat.ble_eq] at hl
    omega
  have s1 := need_state_ok hl hb
  have s2 := need_state_ok hl hg
  have m1 := means_in_ok hn hf h
  have a : L2.atI (L.map qd) (b : Int) = some (qd z) := L2.atI_nat (by simp [hz])
  simp [g_mean_between, b_mean_between, s1, s2, m1, a, -s_atI, -s_ixN]
theorem flows_of_ok {n m : Nat} {f u : Q} {fl : List (Q × Q)} (hl : lok n m f u = true) (hf : flowsN n m f u = some fl) : g_flows_of [ladD n m f u] = .ok (.tup (fl.map fd)) := by
  have hn : n ≤ 1000 := by
    simp only [lok, Bool.and_eq_true, Nat.ble_eq] at hl
    omega
  simp [g_flows_of, b_flows_of, need_ladder_ok hl, flows_in_ok hn hf]
def big9 : Nat := 2 ^ 450
def sm9 (x : Nat) : Bool := Nat.blt x big9
theorem sm9_mul {x y : Nat} (h1 : sm9 x = true) (h2 : sm9 y = true) : x * y < 2 ^ 900 := by
  have a := Nat.blt_eq.mp h1
  have b := Nat.blt_eq.mp h2
  have c : x * y < 2 ^ 450 * 2 ^ 450 := Nat.mul_lt_mul'' a b
  rw [← Nat.pow_add] at c
  exact c
theorem sm9_sm {x : Nat} (h : sm9 x = true) : sm x = true := by
  have a := Nat.blt_eq.mp h
  exact Nat.blt_eq.mpr (Nat.lt_trans a (Nat.pow_lt_pow_right (by decide) (by decide)))
def ltimesN (x y : Q) : Option Q := if sm9 x.1 && sm9 x.2 && sm9 y.1 && sm9 y.2 && Nat.blt 0 (x.2 * y.2) then some (lowN (x.1 * y.1) (x.2 * y.2)) else none
theorem law_low_nat {t b : Nat} (hb : 0 < b) (hs : b < 2 ^ 900) : g__law_low [.int (t : Int), .int (b : Int)] = .ok (qd (lowN t b)) := by
  have h := law_low_ok (t := (t : Int)) (b := (b : Int)) (by omega) (by omega)
  have hg : 0 < Nat.gcd t b := Nat.gcd_pos_of_pos_right _ hb
  have e : ∀ x : Nat, (x : Int).fdiv ((Nat.gcd t b : Nat) : Int) = ((x / Nat.gcd t b : Nat) : Int) := fun x => by rw [Int.fdiv_eq_ediv_of_nonneg _ (by omega)]; simp
  rw [h]
  simp only [Int.natAbs_natCast, e, qd, lowN]
theorem law_times_ok {x y z : Q} (h : ltimesN x y = some z) : g__law_times [qd x, qd y] = .ok (qd z) := by
  unfold ltimesN at h
  split at h
  case isFalse => cases h
  rename_i hh
  simp only [Bool.and_eq_true] at hh
  obtain ⟨⟨⟨⟨h1, h2⟩, h3⟩, h4⟩, h5⟩ := hh
  have h6 : 0 < x.2 * y.2 := Nat.blt_eq.mp h5
  cases h
  have e := law_low_nat (t := x.1 * y.1) h6 (sm9_mul h2 h4)
  simp only [Int.natCast_mul] at e
  simp [g__law_times, b__law_times, qd, dMul, mulOk_sm (sm9_sm h1) (sm9_sm h3), mulOk_sm (sm9_sm h2) (sm9_sm h4), e]
/-- the difference as law_less gives it: its sign -/
def lessok (x y : Q) : Bool := sm9 x.1 && sm9 x.2 && sm9 y.1 && sm9 y.2 && Nat.blt 0 (x.2 * y.2)
theorem law_less_ok {x y : Q} (h : lessok x y = true) : ∃ t b : Int, g__law_less [qd x, qd y] = .ok (.tup [.int t, .int b]) ∧ (t < 0 ↔ x.1 * y.2 < y.1 * x.2) := by
  unfold lessok at h
  simp only [Bool.and_eq_true] at h
  obtain ⟨⟨⟨⟨h1, h2⟩, h3⟩, h4⟩, h5⟩ := h
  have h6 : 0 < x.2 * y.2 := Nat.blt_eq.mp h5
  have e := law_low_ok (t := ((x.1 * y.2 : Nat) : Int) - ((y.1 * x.2 : Nat) : Int)) (b := ((x.2 * y.2 : Nat) : Int)) (by omega) (by have := sm9_mul h2 h4; omega)
  generalize hg : ((Nat.gcd (((x.1 * y.2 : Nat) : Int) - ((y.1 * x.2 : Nat) : Int)).natAbs ((x.2 * y.2 : Nat) : Int).natAbs : Nat) : Int) = g at e
  have g0 : 0 < g := by
    rw [← hg]
    have : 0 < Nat.gcd (((x.1 * y.2 : Nat) : Int) - ((y.1 * x.2 : Nat) : Int)).natAbs ((x.2 * y.2 : Nat) : Int).natAbs := Nat.gcd_pos_of_pos_right _ (by omega)
    omega
  refine ⟨(((x.1 * y.2 : Nat) : Int) - ((y.1 * x.2 : Nat) : Int)).fdiv g, ((x.2 * y.2 : Nat) : Int).fdiv g, ?_, ?_⟩
  · simp only [Int.natCast_mul] at e ⊢
    simp [g__law_less, b__law_less, qd, dMul, mulOk_sm (sm9_sm h1) (sm9_sm h4), mulOk_sm (sm9_sm h3) (sm9_sm h2), mulOk_sm (sm9_sm h2) (sm9_sm h4), e]
  · rw [Int.fdiv_eq_ediv_of_nonneg _ (by omega), Int.ediv_lt_iff_lt_mul g0]
    omega
def fewA (n m : Nat) (f u : Q) (z1 : Q) : Bool := lok n m f u && (match sharesN n m f u with
  | some S => match meanN S with
    | some z2 => lessok z1 z2 && Nat.ble (z2.1 * z1.2) (z1.1 * z2.2) && (decide (z1 = z2) == decide (m = n))
    | none => false
  | none => false)
def fewB (n : Nat) (f u : Q) : Bool := lok n n f u && Nat.ble 1 n && (match flowsN n n f u with
  | some fl => match meansN n fl 1 with
    | some L => match L[0]? with
      | some b => match fl[0]? with
        | some p => match ltimesN b p.2 with
          | some t => decide (t = (1, 1))
          | none => false
        | none => false
      | none => false
    | none => false
  | none => false)
theorem few_right_ok {n m : Nat} {f u z1 : Q} {S1 : List Q} (e1 : sharesN n n f u = some S1) (e2 : meanN S1 = some z1) (ha : fewA n m f u z1 = true) (hb : fewB n f u = true) : g__law_few_right [.int (n : Int), .int (m : Int), qd f, qd u] = .ok (.bl true) := by
  unfold fewA at ha
  unfold fewB at hb
  simp only [Bool.and_eq_true, Nat.ble_eq] at ha hb
  obtain ⟨hm, ha⟩ := ha
  obtain ⟨⟨hl, h1⟩, hb⟩ := hb
  split at ha
  case h_2 => cases ha
  rename_i S2 e3
  split at ha
  case h_2 => cases ha
  rename_i z2 e4
  simp only [Bool.and_eq_true, Nat.ble_eq, beq_iff_eq, decide_eq_decide] at ha
  obtain ⟨⟨a1, a2⟩, a3⟩ := ha
  split at hb
  case h_2 => cases hb
  rename_i fl e5
  split at hb
  case h_2 => cases hb
  rename_i L e6
  split at hb
  case h_2 => cases hb
  rename_i b e7
  split at hb
  case h_2 => cases hb
  rename_i p e8
  split at hb
  case h_2 => cases hb
  rename_i t e9
  replace hb := of_decide_eq_true hb
  subst hb
  have m1 := mean_up_ok hl e1 e2
  have m2 := mean_up_ok hm e3 e4
  obtain ⟨tt, bb, l1, l2⟩ := law_less_ok a1
  have l3 : ¬ tt < 0 := fun z => by have := l2.mp z; omega
  have fo := flows_of_ok hl e5
  have mb := mean_between_ok (b := 0) (g := 1) hl (by omega) h1 e5 e6 e7
  have lt := law_times_ok e9
  simp only [Int.natCast_zero, Int.natCast_one] at mb
  have p0 : L2.atI (fl.map fd) (0 : Int) = some (fd p) := L2.atI_nat (j := 0) (by simp [e8])
  have n1 : dEq (.int (m : Int)) (.int (n : Int)) = .ok (.bl (decide (m = n))) := by
    rw [dEq_int]
    by_cases h : m = n
    · subst h; simp
    · have h2 : ¬ (m : Int) = (n : Int) := by omega
      simp [h, h2]
  have n2 : dEq (qd z1) (qd z2) = .ok (.bl (decide (m = n))) := by
    rw [dEq_q]
    by_cases h : m = n <;> simp [h, a3]
  have n3 : ∀ k : Bool, dNe (.bl k) (.bl k) = .ok (.bl false) := fun k => by cases k <;> simp [dNe, D.okq, dEqv, D.pyd, PyData.eqv]
  have n4 : dEq (qd (1, 1)) (.tup [.int 1, .int 1]) = .ok (.bl true) := dEq_q (1, 1) (1, 1)
  show outRes (sSeq _ _ (startE 7 [.int (n : Int), .int (m : Int), qd f, qd u])) = _
  refine out_seq (ε1 := [.pu (.int (n : Int)), .pu (.int (m : Int)), .pu (qd f), .pu (qd u), .pu (ladD n m f u), .pu (ladD n n f u), .em]) (by simp [ladD]) (out_seq (ε1 := [.pu (.int (n : Int)), .pu (.int (m : Int)), .pu (qd f), .pu (qd u), .pu (ladD n m f u), .pu (ladD n n f u), .em]) ?_ (out_seq (ε1 := [.pu (.int (n : Int)), .pu (.int (m : Int)), .pu (qd f), .pu (qd u), .pu (ladD n m f u), .pu (ladD n n f u), .pu (qd p.2)]) ?_ (out_ret (ε1 := [.pu (.int (n : Int)), .pu (.int (m : Int)), .pu (qd f), .pu (qd u), .pu (ladD n m f u), .pu (ladD n n f u), .pu (qd p.2)]) ?_)))
  · simp [m1, m2, l1, l3, n1, n2, n3]
  · have p1 : L2.atI [qd p.1, qd p.2] 1 = some (qd p.2) := rfl
    simp [fo, p0, p1, -s_atI, -s_ixN]
  · simp [mb, lt, n4]
end W92
namespace W92
open PySem L2 PL

def restM (x : Q) : Option Q := if sm x.1 && sm x.2 && Nat.blt 0 x.2 && Nat.ble x.1 x.2 then some (lowN (x.2 - x.1) x.2) else none
theorem restM_ok {x z : Q} (h : restM x = some z) : g_rest_of_mendedparts [qd x] = .ok (qd z) := by
  unfold restM at h
  split at h
  case isFalse => cases h
  rename_i hh
  simp only [Bool.and_eq_true, Nat.ble_eq] at hh
  obtain ⟨⟨⟨h1, h2⟩, h3⟩, h4⟩ := hh
  have h3 : 0 < x.2 := Nat.blt_eq.mp h3
  cases h
  have l := lowest_ok (x.2 - x.1) x.2 h3 (Nat.lt_trans (sm_log h2) (by omega))
  have e : (x.2 : Int) - (x.1 : Int) = ((x.2 - x.1 : Nat) : Int) := by omega
  simp only [qd] at l
  simp [g_rest_of_mendedparts, b_rest_of_mendedparts, qd, e, l]
def powN (p : Q) (n : Nat) : Option Q := foldO (fun a (_ : Nat) => timesN a p) (List.range n) (1, 1)
theorem power_ok {p z : Q} {n : Nat} (hn : n ≤ 1000) (h : powN p n = some z) : g_power [qd p, .int (n : Int)] = .ok (qd z) := by
  have hr : fRange [.int (n : Int)] = _ := fRange1 (k := n) rfl (by omega)
  obtain ⟨b, e⟩ := sFor_fold (src := S1_power) (tgt := T1_power) (body := B1_power) (fun k : Nat => D.int (k : Int)) _ (fun (a : Q) (b : Option D) => [.pu (qd p), .pu (.int (n : Int)), .pu (qd a), jk b])
    (ε := [.pu (qd p), .pu (.int (n : Int)), .pu (qd (1, 1)), .em]) (b := none) h
    (iCall_ok (g := fRange) (fs := aCons (eV 1) aNil) (ds := [.int (n : Int)]) (by simp) hr) rfl rfl
    (fun a b j a' ha => ⟨_, by simp; rfl, some (.int (j : Int)), by simp [times_ok ha]⟩)
  show outRes (sSeq _ _ (startE 4 [qd p, .int (n : Int)])) = _
  exact out_seq (ε1 := [.pu (qd p), .pu (.int (n : Int)), .pu (qd (1, 1)), .em]) (by simp; rfl) (out_seq e (out_ret (by simp; rfl)))
def cb (s k : Nat) : Nat := (PySem.W.mcComb (s : Int) (k : Int)).toNat
def goodStep (s : Nat) (rest wait : Q) (k : Nat) : Option Q := if Nat.ble k s && decide (PySem.W.mcComb (s : Int) (k : Int) = ((cb s k : Nat) : Int)) then (match powN rest k with
  | some a => match powN wait (s - k) with
    | some b => match timesN a b with
      | some t => timesN (cb s k, 1) t
      | none => none
    | none => none
  | none => none) else none
def goodN (s : Nat) (wait : Q) : Option (List Q) := match restM wait with
  | some rest => mapO (goodStep s rest wait) (List.range (s + 1))
  | none => none
theorem good_of_ok {s : Nat} {wait : Q} {L : List Q} (hs : s ≤ 100) (h : goodN s wait = some L) : g_good_of [.int (s : Int), qd wait] = .ok (.lst (L.map qd)) := by
  unfold goodN at h
  split at h
  case h_2 => cases h
  rename_i rest er
  have r1 := restM_ok er
  have hr : fRange [.int ((s : Int) + 1)] = _ := fRange1 (k := s + 1) (by omega) (by omega)
  have c := eComp_map (vs := [3]) (src := CS1_good_of) (tgt := CT1_good_of) (test := CP1_good_of) (elt := CE1_good_of) (fun i : Nat => D.int (i : Int)) _ qd (ε := [.pu (.int (s : Int)), .pu (qd wait), .pu (qd rest), .em]) (ε1 := [.pu (.int (s : Int)), .pu (qd wait), .pu (qd rest), .em]) h
    (iCall_ok (g := fRange) (fs := aCons (eOp dAdd (eV 0) (eC (.int 1))) aNil) (ds := [.int ((s : Int) + 1)]) (by simp) hr) rfl (by simp; omega) (by simp) (fun k q hq => by
      unfold goodStep at hq
      split at hq
      case isFalse => cases hq
      rename_i hk
      simp only [Bool.and_eq_true, Nat.ble_eq, decide_eq_true_eq] at hk
      obtain ⟨hk, hc⟩ := hk
      split at hq
      case h_2 => cases hq
      rename_i a ea
      split at hq
      case h_2 => cases hq
      rename_i b eb
      split at hq
      case h_2 => cases hq
      rename_i t et
      have p1 := power_ok (by omega) ea
      have p2 := power_ok (by omega) eb
      have t1 := times_ok et
      have t2 := times_ok hq
      have e1 : (s : Int) - (k : Int) = ((s - k : Nat) : Int) := by omega
      have f1 : fComb [.int (s : Int), .int (k : Int)] = .ok (.int ((cb s k : Nat) : Int)) := by
        have hh : combOk (s : Int) (k : Int) = true := decide_eq_true ⟨by omega, by omega, by omega⟩
        simp only [fComb, hh, if_true, ← hc]
      have q0 : D.tup [D.int ((cb s k : Nat) : Int), D.int 1] = qd (cb s k, 1) := rfl
      simp [e1, p1, p2, t1, t2, f1, q0])
  show outRes (sSeq _ _ (startE 4 [.int (s : Int), qd wait])) = _
  exact out_seq (ε1 := [.pu (.int (s : Int)), .pu (qd wait), .pu (qd rest), .em]) (by simp [r1]) (out_retL c)
def nextStep (fail : Q) (good : List Q) (k : Nat) : Option Q := match restM fail with
  | some r => match good[k]? with
    | some a => match good[k + 1]? with
      | some b => match timesN r a with
        | some x => match timesN fail b with
          | some y => plusN x y
          | none => none
        | none => none
      | none => none
    | none => none
  | none => none
def nextN (s : Nat) (fail wait : Q) : Option (List Q) := match goodN s wait with
  | some g => if Nat.ble g.length 1000 then mapO (nextStep fail (g ++ [(0, 1)])) (List.range (s + 1)) else none
  | none => none
theorem next_ok {s : Nat} {fail wait : Q} {L : List Q} (hs : s ≤ 100) (h : nextN s fail wait = some L) : g_next_chances [.int (s : Int), qd fail, qd wait] = .ok (.lst (L.map qd)) := by
  unfold nextN at h
  split at h
  case h_2 => cases h
  rename_i g eg
  split at h
  case isFalse => cases h
  rename_i hl
  replace hl := Nat.ble_eq.mp hl
  have r1 := good_of_ok hs eg
  have hr : fRange [.int ((s : Int) + 1)] = _ := fRange1 (k := s + 1) (by omega) (by omega)
  have c := eComp_map (vs := [4]) (src := CS1_next_chances) (tgt := CT1_next_chances) (test := CP1_next_chances) (elt := CE1_next_chances) (fun i : Nat => D.int (i : Int)) _ qd (ε := [.pu (.int (s : Int)), .pu (qd fail), .pu (qd wait), .pu (.lst ((g ++ [((0, 1) : Q)]).map qd)), .em]) (ε1 := [.pu (.int (s : Int)), .pu (qd fail), .pu (qd wait), .pu (.lst ((g ++ [((0, 1) : Q)]).map qd)), .em]) h
    (iCall_ok (g := fRange) (fs := aCons (eOp dAdd (eV 0) (eC (.int 1))) aNil) (ds := [.int ((s : Int) + 1)]) (by simp) hr) rfl (by simp; omega) (by simp) (fun k q hq => by
      unfold nextStep at hq
      split at hq
      case h_2 => cases hq
      rename_i r er
      split at hq
      case h_2 => cases hq
      rename_i a ea
      split at hq
      case h_2 => cases hq
      rename_i b eb
      split at hq
      case h_2 => cases hq
      rename_i x ex
      split at hq
      case h_2 => cases hq
      rename_i y ey
      have t0 := restM_ok er
      have t1 := times_ok ex
      have t2 := times_ok ey
      have t3 := plus_ok hq
      have i1 : L2.atI ((g ++ [((0, 1) : Q)]).map qd) (k : Int) = some (qd a) := L2.atI_nat (by rw [List.getElem?_map, ea]; rfl)
      have i2 : L2.atI ((g ++ [((0, 1) : Q)]).map qd) ((k : Int) + 1) = some (qd b) := L2.atI_nat (j := k + 1) (by rw [List.getElem?_map, eb]; rfl)
      simp [t0, t1, t2, t3, i1, i2, -s_atI, -s_ixN, -List.map_append])
  have q0 : D.tup [D.int 0, D.int 1] = qd (0, 1) := rfl
  show outRes (sSeq _ _ (startE 5 [.int (s : Int), qd fail, qd wait])) = _
  exact out_seq (ε1 := [.pu (.int (s : Int)), .pu (qd fail), .pu (qd wait), .pu (.lst ((g ++ [((0, 1) : Q)]).map qd)), .em]) (by
    have z : g.length + 1 ≤ 1000000 := by omega
    simp [r1, q0, dCat, z]) (out_retL c)
/-! chances_in -/
def put1 (share : Q) (later : List Q) (p : Q × Nat) : Option (List Q) := match later[p.2]? with
  | some z => match timesN share p.1 with
    | some t => match plusN z t with
      | some w => some (later.set p.2 w)
      | none => none
    | none => none
  | none => none
def put2 (fail wait : Q) (later : List Q) (p : Q × Nat) : Option (List Q) := if Nat.ble p.2 100 then (match nextN p.2 fail wait with
  | some nx => foldO (put1 p.1) nx.zipIdx later
  | none => none) else none
def put3 (s : Nat) (fail wait : Q) (found : List Q) (_ : Nat) : Option (List Q) := foldO (put2 fail wait) found.zipIdx (List.replicate (s + 1) (0, 1))
def chancesN (s : Nat) (fail wait : Q) (steps : Nat) : Option (List Q) := foldO (put3 s fail wait) (List.range steps) (List.replicate s (0, 1) ++ [(1, 1)])
def sprD (s : Nat) (fail wait : Q) : D := .tup [.int (s : Int), qd fail, qd wait]
theorem rep_lst (q : Q) (n : Nat) : dRep (.lst [qd q]) (.int (n : Int)) = if n ≤ 1000 then .ok ((List.replicate n q).map qd) else .stuck := by
  by_cases h : n ≤ 1000
  · have c1 : (n : Int) ≤ 1000 ∧ (-1000 : Int) ≤ (n : Int) ∧ [qd q].length ≤ 1000 := ⟨by omega, by omega, by simp⟩
    simp only [dRep]
    rw [if_pos c1, if_pos h, Int.toNat_natCast, rep_tup]
  · have c1 : ¬ ((n : Int) ≤ 1000 ∧ (-1000 : Int) ≤ (n : Int) ∧ [qd q].length ≤ 1000) := fun z => by omega
    simp only [dRep]
    rw [if_neg c1, if_neg h]
theorem ixN_nat {n k : Nat} (h : k < n) : L2.ixN n (k : Int) = some k := by
  unfold L2.ixN
  rw [if_pos (by omega), if_pos (by omega)]
  simp
theorem chances_in_ok {s steps : Nat} {fail wait : Q} {L : List Q} (hs : s ≤ 100) (hst : steps ≤ 100) (h : chancesN s fail wait steps = some L) : g_chances_in [sprD s fail wait, .int (steps : Int)] = .ok (.lst (L.map qd)) := by
  have hr : fRange [.int (steps : Int)] = _ := fRange1 (k := steps) rfl (by omega)
  obtain ⟨b, e⟩ := sFor_fold (src := S3_chances_in) (tgt := T3_chances_in) (body := B3_chances_in) (fun k : Nat => D.int (k : Int)) _ (fun (a : List Q) (b : Option D × Option D × Option D × Option D × Option D × Option D) => [.pu (sprD s fail wait), .pu (.int (steps : Int)), .pu (.int (s : Int)), .pu (qd fail), .pu (qd wait), .pu (.lst (a.map qd)), jk b.1, jk b.2.1, jk b.2.2.1, jk b.2.2.2.1, jk b.2.2.2.2.1, jk b.2.2.2.2.2])
    (ε := [.pu (sprD s fail wait), .pu (.int (steps : Int)), .pu (.int (s : Int)), .pu (qd fail), .pu (qd wait), .pu (.lst ((List.replicate s ((0, 1) : Q) ++ [((1, 1) : Q)]).map qd)), .em, .em, .em, .em, .em, .em]) (b := (none, none, none, none, none, none)) h
    (iCall_ok (g := fRange) (fs := aCons (eV 1) aNil) (ds := [.int (steps : Int)]) (by simp) hr) rfl rfl
    (fun found b turn a' ha => ⟨_, by simp; rfl, by
      unfold put3 at ha
      obtain ⟨b2, e2⟩ := sFor_fold (src := S2_chances_in) (tgt := T2_chances_in) (body := B2_chances_in) (fun p : Q × Nat => D.tup [.int (p.2 : Int), qd p.1]) _ (fun (a : List Q) (b : Option D × Option D × Option D × Option D) => [.pu (sprD s fail wait), .pu (.int (steps : Int)), .pu (.int (s : Int)), .pu (qd fail), .pu (qd wait), .pu (.lst (found.map qd)), .pu (.int (turn : Int)), .ow (a.map qd), jk b.1, jk b.2.1, jk b.2.2.1, jk b.2.2.2])
        (ε := [.pu (sprD s fail wait), .pu (.int (steps : Int)), .pu (.int (s : Int)), .pu (qd fail), .pu (qd wait), .pu (.lst (found.map qd)), .pu (.int (turn : Int)), .ow ((List.replicate (s + 1) ((0, 1) : Q)).map qd), jk b.2.2.1, jk b.2.2.2.1, jk b.2.2.2.2.1, jk b.2.2.2.2.2]) (b := (b.2.2.1, b.2.2.2.1, b.2.2.2.2.1, b.2.2.2.2.2)) ha
        (by simp) (enumD_map qd found 0) rfl
        (fun later b p a' ha => ⟨_, by simp; rfl, by
          unfold put2 at ha
          split at ha
          case isFalse => cases ha
          rename_i hp
          replace hp := Nat.ble_eq.mp hp
          split at ha
          case h_2 => cases ha
          rename_i nx en
          have n1 := next_ok hp en
          obtain ⟨b3, e3⟩ := sFor_fold (src := S1_chances_in) (tgt := T1_chances_in) (body := B1_chances_in) (fun p : Q × Nat => D.tup [.int (p.2 : Int), qd p.1]) _ (fun (a : List Q) (b : Option D × Option D) => [.pu (sprD s fail wait), .pu (.int (steps : Int)), .pu (.int (s : Int)), .pu (qd fail), .pu (qd wait), .pu (.lst (found.map qd)), .pu (.int (turn : Int)), .ow (a.map qd), .pu (.int (p.2 : Int)), .pu (qd p.1), jk b.1, jk b.2])
            (ε := [.pu (sprD s fail wait), .pu (.int (steps : Int)), .pu (.int (s : Int)), .pu (qd fail), .pu (qd wait), .pu (.lst (found.map qd)), .pu (.int (turn : Int)), .ow (later.map qd), .pu (.int (p.2 : Int)), .pu (qd p.1), jk b.2.2.1, jk b.2.2.2]) (b := (b.2.2.1, b.2.2.2)) ha
            (by simp [n1]) (enumD_map qd nx 0) rfl
            (fun lat b j a' ha => ⟨_, by simp; rfl, by
              unfold put1 at ha
              split at ha
              case h_2 => cases ha
              rename_i z ez
              split at ha
              case h_2 => cases ha
              rename_i t et
              split at ha
              case h_2 => cases ha
              rename_i w ew
              cases ha
              have t1 := times_ok et
              have t2 := plus_ok ew
              have hj : j.2 < lat.length := (List.getElem?_eq_some_iff.mp ez).1
              have i1 : L2.atI (lat.map qd) (j.2 : Int) = some (qd z) := L2.atI_nat (by rw [List.getElem?_map, ez]; rfl)
              have i2 : L2.ixN lat.length (j.2 : Int) = some j.2 := ixN_nat hj
              exact ⟨(some (.int (j.2 : Int)), some (qd j.1)), by simp [sSetIx, t1, t2, i1, i2, -s_atI, -s_ixN]⟩⟩)
          exact ⟨(some (.int (p.2 : Int)), some (qd p.1), b3.1, b3.2), by simpa using e3⟩⟩)
      have rp := rep_lst (0, 1) (s + 1)
      rw [if_pos (by omega)] at rp
      have q0 : D.tup [D.int 0, D.int 1] = qd (0, 1) := rfl
      simp only [Int.natCast_add, Int.natCast_one] at rp
      exact ⟨(some (.int (turn : Int)), some (.lst (a'.map qd)), b2.1, b2.2.1, b2.2.2.1, b2.2.2.2), by simp [q0, eOpN, rp, e2, -List.map_replicate]⟩⟩)
  have rp := rep_lst (0, 1) s
  rw [if_pos (by omega)] at rp
  have q0 : D.tup [D.int 0, D.int 1] = qd (0, 1) := rfl
  have q1 : D.tup [D.int 1, D.int 1] = qd (1, 1) := rfl
  have z : s + 1 ≤ 1000000 := by omega
  show outRes (sSeq _ _ (startE 12 [sprD s fail wait, .int (steps : Int)])) = _
  exact out_seq (ε1 := [.pu (sprD s fail wait), .pu (.int (steps : Int)), .pu (.int (s : Int)), .pu (qd fail), .pu (qd wait), .em, .em, .em, .em, .em, .em, .em]) (by simp [sprD]) (out_seq (ε1 := [.pu (sprD s fail wait), .pu (.int (steps : Int)), .pu (.int (s : Int)), .pu (qd fail), .pu (qd wait), .pu (.lst ((List.replicate s ((0, 1) : Q) ++ [((1, 1) : Q)]).map qd)), .em, .em, .em, .em, .em, .em]) (by simp [q0, q1, dMul, rp, dCat, z, -List.map_replicate]) (out_seq e (out_ret (by simp; rfl))))
end W92
namespace W92
open PySem L2 PL

/-! polynomials: what they are is told by the table, by trial -/
abbrev pd (P : List Int) : D := .tup (P.map D.int)
def listIs (r : Res D) (J : List (List Int)) : Bool := match r with
  | .ok (.lst ds) => decide (ds.length = J.length) && (ds.zip J).all fun p => match p.1 with
    | .tup es => decide (allI es = some p.2)
    | _ => false
  | _ => false
theorem zip_pd : ∀ (ds : List D) (J : List (List Int)), ds.length = J.length → ((ds.zip J).all fun p => match p.1 with
    | .tup es => decide (allI es = some p.2)
    | _ => false) = true → ds = J.map pd
  | [], [], _, _ => rfl
  | [], _ :: _, h, _ => by simp at h
  | _ :: _, [], h, _ => by simp at h
  | d :: ds, P :: J, h, e => by
    simp only [List.zip_cons_cons, List.all_cons, Bool.and_eq_true] at e
    have ih := zip_pd ds J (by simpa using h) e.2
    cases d with
    | tup es =>
      have e1 := of_decide_eq_true e.1
      rw [ih, List.map_cons, allI_map e1]
    | _ => exact absurd e.1 (by simp)
theorem listIs_ok {r : Res D} {J : List (List Int)} (h : listIs r J = true) : r = .ok (.lst (J.map pd)) := by
  unfold listIs at h
  split at h
  · rename_i ds
    simp only [Bool.and_eq_true, decide_eq_true_eq] at h
    rw [zip_pd ds J h.1 h.2]
  · cases h
def atlIs (n k : Nat) (J : List (List Int)) (P : List Int) : Bool := match forF T1_at_least_in B1_at_least_in ((J.drop k).map pd) [.pu (.int (n : Int)), .pu (.int (k : Int)), .pu (.tup []), .em] with
  | .nx ε => match ε[2]? with
    | some (PL.Slot.pu (.tup es)) => decide (allI es = some P)
    | _ => false
  | _ => false
theorem at_least_in_ok {n k : Nat} {J : List (List Int)} {P : List Int} (hj : g_justs_in [.int (n : Int)] = .ok (.lst (J.map pd))) (h : atlIs n k J P = true) : g_at_least_in [.int (n : Int), .int (k : Int)] = .ok (pd P) := by
  unfold atlIs at h
  split at h
  case h_2 => cases h
  rename_i ε e
  split at h
  case h_2 => cases h
  rename_i es e2
  have e3 := allI_map (of_decide_eq_true h)
  subst e3
  have s1 : S1_at_least_in [.pu (.int (n : Int)), .pu (.int (k : Int)), .pu (.tup []), .em] = .ok ((J.drop k).map pd, [.pu (.int (n : Int)), .pu (.int (k : Int)), .pu (.tup []), .em]) := by
    simp [hj, cutD_drop]
  show outRes (sSeq _ _ (startE 4 [.int (n : Int), .int (k : Int)])) = _
  refine out_seq (ε1 := [.pu (.int (n : Int)), .pu (.int (k : Int)), .pu (.tup []), .em]) (by simp) (out_seq (ε1 := ε) (by simp only [sFor, s1, Res.out, e]) (out_ret (ε1 := ε) (by simp [e2])))
def ism (x : Int) : Bool := Nat.blt x.natAbs big9
theorem ism_log {x : Int} (h : ism x = true) : x.natAbs < 2 ^ 450 := Nat.blt_eq.mp h
theorem mulOk_of {i j : Int} (hi : i.natAbs < 2 ^ 2000) (hj : j.natAbs < 2 ^ 2000) : mulOk i j = true := by
  have a : ∀ x : Int, x.natAbs < 2 ^ 2000 → x.natAbs.log2 < 2000 := fun x h => by
    by_cases h0 : x.natAbs = 0
    · rw [h0]; decide
    · exact (Nat.log2_lt h0).mpr h
  have b := a i hi
  have c := a j hj
  simp only [mulOk, Bool.or_eq_true, decide_eq_true_eq]
  exact .inl (.inl (by omega))
def valStep (c : Q) (a : Int × Nat) (p : Int) : Option (Int × Nat) := if ism a.1 && sm9 a.2 && ism p && sm9 c.1 && sm9 c.2 then some (a.1 * (c.1 : Int) + p * (a.2 : Int) * (c.2 : Int), a.2 * c.2) else none
def valueN (P : List Int) (c : Q) : Option Q := if Nat.ble P.length 50 then (match foldO (valStep c) P.reverse (0, 1) with
  | some r => if decide (0 ≤ r.1) && Nat.blt 0 r.2 && sm r.2 then some (lowN r.1.toNat r.2) else none
  | none => none) else none
theorem bIxT_all : ∀ n, n < 60 → bIxT none none n = (List.range n).reverse := by decide +kernel
theorem bCount_all : ∀ n, n < 60 → bCount none none n ≤ 1000000 := by decide +kernel
theorem back_allT {ds : List D} (h : ds.length < 60) : dBack (.tup ds) none none = .ok (.tup ds.reverse) := by
  simp only [dBack, bIxT_all _ h, pick_rev]
  rw [if_pos (bCount_all _ h)]
theorem value_in_ok {P : List Int} {c z : Q} (h : valueN P c = some z) : g_value_in [pd P, qd c] = .ok (qd z) := by
  unfold valueN at h
  split at h
  case isFalse => cases h
  rename_i hl
  replace hl := Nat.ble_eq.mp hl
  split at h
  case h_2 => cases h
  rename_i r er
  split at h
  case isFalse => cases h
  rename_i hh
  simp only [Bool.and_eq_true, decide_eq_true_eq] at hh
  obtain ⟨⟨h1, h2⟩, h3⟩ := hh
  have h2 : 0 < r.2 := Nat.blt_eq.mp h2
  cases h
  have bk := back_allT (ds := P.map D.int) (by simp; omega)
  obtain ⟨b, e⟩ := sFor_fold (src := S1_value_in) (tgt := T1_value_in) (body := B1_value_in) D.int _ (fun (a : Int × Nat) (b : Option D) => [.pu (pd P), .pu (qd c), .pu (.int a.1), .pu (.int (a.2 : Int)), jk b])
    (ε := [.pu (pd P), .pu (qd c), .pu (.int 0), .pu (.int 1), .em]) (b := none) (ys := (P.map D.int).reverse) er (by simp [eBack, oN, bk]) (by simp) rfl
    (fun a b p a' ha => ⟨_, by simp; rfl, by
      unfold valStep at ha
      split at ha
      case isFalse => cases ha
      rename_i hh
      simp only [Bool.and_eq_true] at hh
      obtain ⟨⟨⟨⟨i1, i2⟩, i3⟩, i4⟩, i5⟩ := hh
      cases ha
      have k1 := ism_log i1
      have k2 : a.2 < 2 ^ 450 := Nat.blt_eq.mp i2
      have k3 := ism_log i3
      have k4 : c.1 < 2 ^ 450 := Nat.blt_eq.mp i4
      have k5 : c.2 < 2 ^ 450 := Nat.blt_eq.mp i5
      have le : ∀ x, x < 2 ^ 450 → x < 2 ^ 2000 := fun x h => Nat.lt_trans h (Nat.pow_lt_pow_right (by decide) (by decide))
      have m1 : mulOk a.1 (c.1 : Int) = true := mulOk_of (le _ k1) (le _ (by simpa using k4))
      have m2 : mulOk p (a.2 : Int) = true := mulOk_of (le _ k3) (le _ (by simpa using k2))
      have m3 : mulOk (p * (a.2 : Int)) (c.2 : Int) = true := mulOk_of (by
        rw [Int.natAbs_mul, Int.natAbs_natCast]
        have z : p.natAbs * a.2 < 2 ^ 450 * 2 ^ 450 := Nat.mul_lt_mul'' k3 k2
        rw [← Nat.pow_add] at z
        exact Nat.lt_trans z (Nat.pow_lt_pow_right (by decide) (by decide))) (le _ (by simpa using k5))
      have m4 : mulOk (a.2 : Int) (c.2 : Int) = true := mulOk_of (le _ (by simpa using k2)) (le _ (by simpa using k5))
      exact ⟨some (.int p), by simp [qd, dMul, m1, m2, m3, m4]⟩⟩)
  have lo := lowest_ok r.1.toNat r.2 h2 (Nat.lt_trans (sm_log h3) (by omega))
  rw [Int.toNat_of_nonneg h1] at lo
  show outRes (sSeq _ _ (startE 5 [pd P, qd c])) = _
  exact out_seq (ε1 := [.pu (pd P), .pu (qd c), .pu (.int 0), .pu (.int 1), .em]) (by simp) (out_seq e (out_ret (by simp [lo]; rfl)))
theorem at_least_alike_ok {n k : Nat} {J : List (List Int)} {P : List Int} {c z : Q} (hc : chok c = true) (hn : n ≤ 30) (hk : k ≤ 31) (hj : g_justs_in [.int (n : Int)] = .ok (.lst (J.map pd))) (h : atlIs n k J P = true) (hz : valueN P c = some z) :
    g_at_least_alike [qd c, .int (n : Int), .int (k : Int)] = .ok (qd z) := by
  have c1 := is_chance_ok hc
  have w1 := need_whole_ok (v := (n : Int)) (lo := 0) (hi := 30) (by omega) (by omega)
  have w2 := need_whole_ok (v := (k : Int)) (lo := 0) (hi := 31) (by omega) (by omega)
  have a1 := at_least_in_ok hj h
  have v1 := value_in_ok hz
  simp [g_at_least_alike, b_at_least_alike, c1, g_need_numbers, b_need_numbers, w1, w2, a1, v1]
end W92
namespace W92
open PySem L2 PL

def sprOk (s : Nat) (f : Q) : Bool := Nat.ble s 6 && smok f && Nat.blt 0 f.1
theorem w01 : smok (0, 1) = true := by decide
theorem are_rates_ok {f : Q} (hf : smok f = true) (h0 : Nat.blt 0 f.1 = true) : g_are_rates [qd f, qd (0, 1)] = .ok (.bl true) := by
  have h1 := is_small_ok hf
  have h2 := is_small_ok w01
  have h3 : 0 < f.1 := Nat.blt_eq.mp h0
  have i0 : dIx (qd f) (.int 0) = .ok (.int (f.1 : Int)) := rfl
  generalize qd (0, 1) = w at h2
  simp [g_are_rates, b_are_rates, h1, h2, h3, i0, -dIx]
theorem need_spares_ok {s : Nat} {f : Q} (h : sprOk s f = true) : g_need_spares [sprD s f (0, 1)] = .ok .non := by
  simp only [sprOk, Bool.and_eq_true, Nat.ble_eq] at h
  have r := are_rates_ok h.1.2 h.2
  have w1 : g_is_whole [.int (s : Int), .int 0, .int 6] = .ok (.bl true) := by
    have b : (s : Int) ≤ 6 := by omega
    simp [is_whole_int, b]
  have t : g_is_tuple_of [sprD s f (0, 1), .int 3, .int 3] = .ok (.bl true) := by simp [sprD, is_tuple_of_tup]
  simp only [sprD] at t
  simp [g_need_spares, b_need_spares, g_fits_waitingspares, b_fits_waitingspares, t, sprD, w1, r]
theorem last_in_ok {s steps : Nat} {f z : Q} {L : List Q} (hs : s ≤ 100) (hst : steps ≤ 100) (h : chancesN s f (0, 1) steps = some L) (hz : totN L = some z) : g_last_in [sprD s f (0, 1), .int (steps : Int)] = .ok (qd z) := by
  have ci := chances_in_ok hs hst h
  obtain ⟨b, e⟩ := sFor_fold (src := S1_last_in) (tgt := T1_last_in) (body := B1_last_in) qd _ (fun (a : Q) (b : Option D) => [.pu (sprD s f (0, 1)), .pu (.int (steps : Int)), .pu (qd a), jk b])
    (ε := [.pu (sprD s f (0, 1)), .pu (.int (steps : Int)), .pu (qd (0, 1)), .em]) (b := none) hz (by simp [ci]) rfl rfl
    (fun a b j a' ha => ⟨_, by simp; rfl, some (qd j), by simp [plus_ok ha]⟩)
  show outRes (sSeq _ _ (startE 4 [sprD s f (0, 1), .int (steps : Int)])) = _
  exact out_seq (ε1 := [.pu (sprD s f (0, 1)), .pu (.int (steps : Int)), .pu (qd (0, 1)), .em]) (by simp; rfl) (out_seq e (out_ret (by simp; rfl)))
theorem last_chance_ok {s steps : Nat} {f z : Q} {L : List Q} (hs : sprOk s f = true) (hst : steps ≤ 30) (h : chancesN s f (0, 1) steps = some L) (hz : totN L = some z) : g_last_chance [sprD s f (0, 1), .int (steps : Int)] = .ok (qd z) := by
  have hs6 : s ≤ 6 := by
    simp only [sprOk, Bool.and_eq_true, Nat.ble_eq] at hs
    omega
  have w := need_whole_ok (v := (steps : Int)) (lo := 0) (hi := 30) (by omega) (by omega)
  have li := last_in_ok (by omega) (by omega) h hz
  simp [g_last_chance, b_last_chance, need_spares_ok hs, w, li]
theorem good_chances_ok {s steps : Nat} {f : Q} {L : List Q} (hs : sprOk s f = true) (hst : steps ≤ 30) (h : chancesN s f (0, 1) steps = some L) : g_good_chances [sprD s f (0, 1), .int (steps : Int)] = .ok (.tup (L.map qd)) := by
  have hs6 : s ≤ 6 := by
    simp only [sprOk, Bool.and_eq_true, Nat.ble_eq] at hs
    omega
  have w := need_whole_ok (v := (steps : Int)) (lo := 0) (hi := 30) (by omega) (by omega)
  have ci := chances_in_ok (by omega) (by omega) h
  simp [g_good_chances, b_good_chances, need_spares_ok hs, w, ci]
def restL (f : Q) : Q := lowN (f.2 - f.1) f.2
def lrok (f : Q) : Bool := Nat.ble f.1 f.2 && Nat.blt 0 f.2 && sm9 f.1 && sm9 f.2
theorem law_rest_ok {f : Q} (h : lrok f = true) : g__law_less [.tup [.int 1, .int 1], qd f] = .ok (qd (restL f)) := by
  simp only [lrok, Bool.and_eq_true, Nat.ble_eq] at h
  obtain ⟨⟨⟨h1, h2⟩, h3⟩, h4⟩ := h
  have h2 : 0 < f.2 := Nat.blt_eq.mp h2
  have k4 : f.2 < 2 ^ 450 := Nat.blt_eq.mp h4
  have e := law_low_nat (t := f.2 - f.1) h2 (Nat.lt_trans k4 (Nat.pow_lt_pow_right (by decide) (by decide)))
  have e2 : ((f.2 - f.1 : Nat) : Int) = (f.2 : Int) - (f.1 : Int) := by omega
  rw [e2] at e
  have one : sm9 1 = true := by decide
  have m1 := mulOk_sm (sm9_sm one) (sm9_sm h4)
  have m2 := mulOk_sm (sm9_sm h3) (sm9_sm one)
  simp only [Int.natCast_one] at m1 m2
  simp [g__law_less, b__law_less, qd, dMul, m1, m2, e, restL]
def dueN (C : List Q) (s steps k : Nat) : Option Q := if Nat.ble s (steps + k) then C[steps + k - s]? else some (0, 1)
def toldOk (C L : List Q) (s steps : Nat) (a : Unit) (k : Nat) : Option Unit := match dueN C s steps k with
  | some d => match L[k]? with
    | some t => if decide (t = d) then some a else none
    | none => none
  | none => none
def spareN (s : Nat) (f : Q) (steps : Nat) (J : List (List Int)) (P : List Int) : Bool := sprOk s f && lrok f && Nat.ble steps 12 && chok (restL f) && atlIs steps (steps - s) J P && (match chancesN s f (0, 1) steps with
  | some L => match totN L with
    | some z => match countsN (List.replicate steps (restL f)) with
      | some C => decide (totN (C.drop (steps - s)) = some z) && decide (valueN P (restL f) = some z) && (foldO (toldOk C L s steps) (List.range (s + 1)) ()).isSome
      | none => false
    | none => false
  | none => false)
theorem spares_right_ok {s steps : Nat} {f : Q} {J : List (List Int)} {P : List Int} (hj : g_justs_in [.int (steps : Int)] = .ok (.lst (J.map pd))) (h : spareN s f steps J P = true) : g__law_spares_right [.int (s : Int), qd f, .int (steps : Int)] = .ok (.bl true) := by
  unfold spareN at h
  simp only [Bool.and_eq_true, Nat.ble_eq] at h
  obtain ⟨⟨⟨⟨⟨hs, hr⟩, hst⟩, hc⟩, ha⟩, h⟩ := h
  split at h
  case h_2 => cases h
  rename_i L eL'
  split at h
  case h_2 => cases h
  rename_i z ez
  split at h
  case h_2 => cases h
  rename_i C eC'
  simp only [Bool.and_eq_true, decide_eq_true_eq] at h
  obtain ⟨⟨e1, e2⟩, e3⟩ := h
  have hs6 : s ≤ 6 := by
    simp only [sprOk, Bool.and_eq_true, Nat.ble_eq] at hs
    omega
  have hlen : (List.replicate steps (restL f)).length ≤ 12 := by simp; omega
  have hall : (List.replicate steps (restL f)).all chok = true := by simp [hc]
  have lr := law_rest_ok hr
  have lc := last_chance_ok hs (by omega) eL' ez
  have al := at_least_ok hlen hall eC' (k := steps - s) (by omega) e1
  have ak := at_least_alike_ok (n := steps) (k := steps - s) hc (by omega) (by omega) hj ha e2
  have cc := count_chances_ok hlen hall eC'
  have gc := good_chances_ok hs (by omega) eL'
  have r2 : dMul (.tup [qd (restL f)]) (.int (steps : Int)) = .ok (.tup ((List.replicate steps (restL f)).map qd)) := by
    have c1 : (steps : Int) ≤ 1000 ∧ (-1000 : Int) ≤ (steps : Int) ∧ [qd (restL f)].length ≤ 1000 := ⟨by omega, by omega, by simp⟩
    simp only [dMul]
    rw [if_pos c1, Int.toNat_natCast, rep_tup]
  have nd : (if (s : Int) < (steps : Int) then (steps : Int) - (s : Int) else 0) = ((steps - s : Nat) : Int) := by split <;> omega
  have hr : fRange [.int ((s : Int) + 1)] = _ := fRange1 (k := s + 1) (by omega) (by omega)
  cases e4 : foldO (toldOk C L s steps) (List.range (s + 1)) () with
  | none => rw [e4] at e3; cases e3
  | some u =>
    have q0 : D.tup [D.int 0, D.int 1] = qd (0, 1) := rfl
    obtain ⟨b, e⟩ := sFor_fold (src := S1__law_spares_right) (tgt := T1__law_spares_right) (body := B1__law_spares_right) (fun k : Nat => D.int (k : Int)) _ (fun (_ : Unit) (b : Option D × Option D) => [.pu (.int (s : Int)), .pu (qd f), .pu (.int (steps : Int)), .pu (sprD s f (0, 1)), .pu (qd (restL f)), .pu (.tup ((List.replicate steps (restL f)).map qd)), .pu (.int ((steps - s : Nat) : Int)), .pu (.tup (C.map qd)), .pu (.tup (L.map qd)), jk b.1, jk b.2])
      (ε := [.pu (.int (s : Int)), .pu (qd f), .pu (.int (steps : Int)), .pu (sprD s f (0, 1)), .pu (qd (restL f)), .pu (.tup ((List.replicate steps (restL f)).map qd)), .pu (.int ((steps - s : Nat) : Int)), .pu (.tup (C.map qd)), .pu (.tup (L.map qd)), .em, .em]) (b := (none, none)) e4
      (iCall_ok (g := fRange) (fs := aCons (eOp dAdd (eV 0) (eC (.int 1))) aNil) (ds := [.int ((s : Int) + 1)]) (by simp) hr) rfl rfl
      (fun a b k a' ha => ⟨_, by simp; rfl, by
        unfold toldOk at ha
        split at ha
        case h_2 => cases ha
        rename_i d ed
        split at ha
        case h_2 => cases ha
        rename_i t et
        split at ha
        case isFalse => cases ha
        rename_i htd
        replace htd := of_decide_eq_true htd
        subst htd
        have i1 : L2.atI (L.map qd) (k : Int) = some (qd t) := L2.atI_nat (by rw [List.getElem?_map, et]; rfl)
        unfold dueN at ed
        refine ⟨(some (.int (k : Int)), some (qd t)), ?_⟩
        split at ed
        · rename_i hk
          replace hk := Nat.ble_eq.mp hk
          have e5 : (steps : Int) - (s : Int) + (k : Int) = ((steps + k - s : Nat) : Int) := by omega
          have i2 : L2.atI (C.map qd) ((steps + k - s : Nat) : Int) = some (qd t) := L2.atI_nat (by rw [List.getElem?_map, ed]; rfl)
          simp [e5, i1, i2, dNe_q, -s_atI, -s_ixN]
        · rename_i hk
          have hk2 : ¬ s ≤ steps + k := fun z => hk (Nat.ble_eq.mpr z)
          have e5 : ¬ (0 : Int) ≤ (steps : Int) - (s : Int) + (k : Int) := by omega
          cases ed
          simp [e5, i1, dNe_q, q0, -s_atI, -s_ixN]⟩)
    show outRes (sSeq _ _ (startE 11 [.int (s : Int), qd f, .int (steps : Int)])) = _
    refine out_seq (ε1 := [.pu (.int (s : Int)), .pu (qd f), .pu (.int (steps : Int)), .pu (sprD s f (0, 1)), .pu (qd (restL f)), .em, .em, .em, .em, .em, .em]) (by simp [lr, sprD, q0])
      (out_seq (ε1 := [.pu (.int (s : Int)), .pu (qd f), .pu (.int (steps : Int)), .pu (sprD s f (0, 1)), .pu (qd (restL f)), .pu (.tup ((List.replicate steps (restL f)).map qd)), .em, .em, .em, .em, .em]) (by simp [r2, -List.map_replicate])
      (out_seq (ε1 := [.pu (.int (s : Int)), .pu (qd f), .pu (.int (steps : Int)), .pu (sprD s f (0, 1)), .pu (qd (restL f)), .pu (.tup ((List.replicate steps (restL f)).map qd)), .pu (.int ((steps - s : Nat) : Int)), .em, .em, .em, .em]) ?_
      (out_seq (ε1 := [.pu (.int (s : Int)), .pu (qd f), .pu (.int (steps : Int)), .pu (sprD s f (0, 1)), .pu (qd (restL f)), .pu (.tup ((List.replicate steps (restL f)).map qd)), .pu (.int ((steps - s : Nat) : Int)), .em, .em, .em, .em]) (by simp [lc, al, ak, dNe_q, -List.map_replicate])
      (out_seq (ε1 := [.pu (.int (s : Int)), .pu (qd f), .pu (.int (steps : Int)), .pu (sprD s f (0, 1)), .pu (qd (restL f)), .pu (.tup ((List.replicate steps (restL f)).map qd)), .pu (.int ((steps - s : Nat) : Int)), .pu (.tup (C.map qd)), .pu (.tup (L.map qd)), .em, .em]) (by simp [cc, gc, -List.map_replicate]) (out_seq e (out_ret (by simp; rfl)))))))
    by_cases hh : s < steps
    · have z : (steps : Int) - (s : Int) = ((steps - s : Nat) : Int) := by omega
      simp [hh, z]
    · have z : steps - s = 0 := by omega
      simp [hh, z]
end W92
namespace W92
open PySem L2 PL

/-! spares needed -/
def zAt (f : Q) (steps : Nat) (C : List Q) (s : Nat) : Option Q := match chancesN s f (0, 1) steps with
  | some L => match totN L with
    | some z => if decide (totN (C.drop (steps - s)) = some z) then some z else none
    | none => none
  | none => none
def enough (zs : List Q) (ch : Q) (s : Nat) : Bool := match zs[s]? with
  | some z => Nat.ble (ch.1 * z.2) (z.1 * ch.2)
  | none => false
def tabN (f : Q) (steps : Nat) : Option (List Q) := match countsN (List.replicate steps (restL f)) with
  | some C => mapO (zAt f steps C) (List.range 7)
  | none => none
def needOk (f : Q) (steps : Nat) : Bool := smok f && Nat.blt 0 f.1 && lrok f && Nat.ble steps 12 && chok (restL f)
theorem mapO_get {ι γ : Type} {φ : ι → Option γ} : ∀ {xs : List ι} {cs : List γ} {i : Nat} {x : ι}, mapO φ xs = some cs → xs[i]? = some x → ∃ c, cs[i]? = some c ∧ φ x = some c
  | [], cs, i, x, h, e => by simp at e
  | y :: ys, cs, i, x, h, e => by
    simp only [mapO] at h
    cases e1 : φ y with
    | none => rw [e1] at h; cases h
    | some c =>
      rw [e1] at h
      simp only at h
      cases e2 : mapO φ ys with
      | none => rw [e2] at h; cases h
      | some cs' =>
        rw [e2] at h
        cases h
        cases i with
        | zero =>
          simp at e
          subst e
          exact ⟨c, rfl, e1⟩
        | succ i =>
          simp at e
          obtain ⟨d, h1, h2⟩ := mapO_get e2 e
          exact ⟨d, by simpa using h1, h2⟩
theorem lead_ok {x y : Q} (h : lessok x y = true) : g_lead [qd x, qd y] = .ok (.int (((x.1 * y.2 : Nat) : Int) - ((y.1 * x.2 : Nat) : Int))) := by
  simp only [lessok, Bool.and_eq_true] at h
  obtain ⟨⟨⟨⟨h1, h2⟩, h3⟩, h4⟩, h5⟩ := h
  simp [g_lead, b_lead, qd, dMul, mulOk_sm (sm9_sm h1) (sm9_sm h4), mulOk_sm (sm9_sm h3) (sm9_sm h2)]
theorem dEq_non : dEq .non .non = .ok (.bl true) := by simp [dEq, D.okq, dEqv, D.pyd, PyData.eqv]
theorem okqL_int (n : Nat) : ∀ xs : List Nat, D.okqL (n + 1) (xs.map fun k : Nat => D.int (k : Int)) = true
  | [] => by simp [D.okqL]
  | x :: xs => by simp [D.okqL, okq_int, okqL_int n xs]
theorem dNe_ints (xs : List Nat) : dNe (.lst (xs.map fun k : Nat => D.int (k : Int))) (.lst []) = .ok (.bl (!decide (xs = []))) := by
  have h1 : D.okq 20 (.lst (xs.map fun k : Nat => D.int (k : Int))) = true := by
    simp [D.okq]; exact okqL_int _ xs
  have h2 : D.okq 20 (.lst []) = true := by simp [D.okq, D.okqL]
  cases xs with
  | nil => simp [dNe, h2, dEqv, D.pyd, D.pydL, PyData.eqv, PyData.eqvAll]
  | cons x xs =>
    simp only [List.map_cons] at h1
    simp only [List.map_cons, dNe, h1, h2, Bool.and_self, if_true, dEqv, D.pyd, List.map_cons, D.pydL, PyData.eqv, PyData.eqvAll]
    simp
def chk7 (zs : List Q) (ch : Q) : Bool := zs.all fun z => lessok z ch
theorem needed_right_ok {f ch : Q} {steps : Nat} {zs : List Q} (h0 : needOk f steps = true) (hz : tabN f steps = some zs) (hc : smok ch = true) (h7 : chk7 zs ch = true) : g__law_needed_right [qd f, .int (steps : Int), qd ch] = .ok (.bl true) := by
  simp only [needOk, Bool.and_eq_true, Nat.ble_eq] at h0
  obtain ⟨⟨⟨⟨hf, h1⟩, hr⟩, hst⟩, hch⟩ := h0
  unfold tabN at hz
  split at hz
  case h_2 => cases hz
  rename_i C eC'
  have lr := law_rest_ok hr
  have hlen : (List.replicate steps (restL f)).length ≤ 12 := by simp; omega
  have hall : (List.replicate steps (restL f)).all chok = true := by simp [hch]
  have r2 : dMul (.tup [qd (restL f)]) (.int (steps : Int)) = .ok (.tup ((List.replicate steps (restL f)).map qd)) := by
    have c1 : (steps : Int) ≤ 1000 ∧ (-1000 : Int) ≤ (steps : Int) ∧ [qd (restL f)].length ≤ 1000 := ⟨by omega, by omega, by simp⟩
    simp only [dMul]
    rw [if_pos c1, Int.toNat_natCast, rep_tup]
  have facts : ∀ s : Nat, s < 7 → ∃ z L, zs[s]? = some z ∧ lessok z ch = true ∧ chancesN s f (0, 1) steps = some L ∧ totN L = some z ∧ totN (C.drop (steps - s)) = some z := by
    intro s hs
    obtain ⟨z, e1, e2⟩ := mapO_get hz (i := s) (x := s) (by rw [List.getElem?_range hs])
    have hm : z ∈ zs := List.mem_of_getElem? e1
    have l := List.all_eq_true.mp h7 z hm
    unfold zAt at e2
    split at e2
    case h_2 => cases e2
    rename_i L eL'
    split at e2
    case h_2 => cases e2
    rename_i z' ez'
    split at e2
    case isFalse => cases e2
    rename_i ht
    cases e2
    exact ⟨z, L, e1, l, eL', ez', of_decide_eq_true ht⟩
  have q0 : D.tup [D.int 0, D.int 1] = qd (0, 1) := rfl
  have q1 : D.tup [D.int 1, D.int 1] = qd (1, 1) := rfl
  -- able
  have nd : ∀ k : Nat, (if (k : Int) < (steps : Int) then (steps : Int) - (k : Int) else 0) = ((steps - k : Nat) : Int) := fun k => by split <;> omega
  have c := eComp_filter (vs := [5]) (src := CS1__law_needed_right) (tgt := CT1__law_needed_right) (test := CP1__law_needed_right) (elt := CE1__law_needed_right) (fun k : Nat => D.int (k : Int)) (enough zs ch) (fun k : Nat => D.int (k : Int)) (xs := List.range 7)
    (ε := [.pu (qd f), .pu (.int (steps : Int)), .pu (qd ch), .pu (.tup ((List.replicate steps (restL f)).map qd)), .em, .em]) (ε1 := [.pu (qd f), .pu (.int (steps : Int)), .pu (qd ch), .pu (.tup ((List.replicate steps (restL f)).map qd)), .em, .em])
    (iCall_ok (g := fRange) (fs := aCons (eC (.int 7)) aNil) (ds := [.int 7]) (by simp) (fRange1 (k := 7) (by rfl) (by omega))) rfl (by simp) (by simp) (fun k hk => by
      have hk7 : k < 7 := List.mem_range.mp hk
      obtain ⟨z, L, e1, e2, e3, e4, e5⟩ := facts k hk7
      have al := at_least_ok hlen hall eC' (k := steps - k) (by omega) e5
      obtain ⟨t, b, l1, l2⟩ := law_less_ok e2
      have en : enough zs ch k = decide (0 ≤ t) := by
        simp only [enough, e1]
        by_cases ht : t < 0
        · have := l2.mp ht
          rw [decide_eq_false (by omega)]
          cases hb : Nat.ble (ch.1 * z.2) (z.1 * ch.2) with
          | false => rfl
          | true => have := Nat.ble_eq.mp hb; omega
        · have h2 : ¬ z.1 * ch.2 < ch.1 * z.2 := fun y => ht (l2.mpr y)
          rw [decide_eq_true (by omega), Nat.ble_eq.mpr (by omega)]
      have i0 : dIx (.tup [.int t, .int b]) (.int 0) = .ok (.int t) := rfl
      rw [en]
      by_cases hlt : k < steps
      · have zz : (steps : Int) - (k : Int) = ((steps - k : Nat) : Int) := by omega
        by_cases h0 : (0 : Int) ≤ t
        · simp [hlt, zz, al, l1, i0, h0, -List.map_replicate]
        · simp [hlt, zz, al, l1, i0, h0, -List.map_replicate]
      · have zz : steps - k = 0 := by omega
        rw [zz] at al
        simp only [Int.natCast_zero] at al
        by_cases h0 : (0 : Int) ≤ t
        · simp [hlt, al, l1, i0, h0, -List.map_replicate]
        · simp [hlt, al, l1, i0, h0, -List.map_replicate])
  -- the program's own search
  have hr7 : fRange [.int 7] = _ := fRange1 (k := 7) (by rfl) (by omega)
  obtain ⟨b, e⟩ := forF_find (tgt := T1_spares_needed) (body := B1_spares_needed) (it := fun k : Nat => D.int (k : Int)) (p := enough zs ch) (out := fun k : Nat => D.int (k : Int)) (st := fun b : Option D => [.pu (qd f), .pu (qd (0, 1)), .pu (.int (steps : Int)), .pu (qd ch), jk b]) (List.range 7) (fun k hk b => by
    have hk7 : k < 7 := List.mem_range.mp hk
    obtain ⟨z, L, e1, e2, e3, e4, e5⟩ := facts k hk7
    have li := last_in_ok (s := k) (by omega) (by omega) e3 e4
    have ld := lead_ok e2
    simp only [sprD] at li
    refine ⟨[.pu (qd f), .pu (qd (0, 1)), .pu (.int (steps : Int)), .pu (qd ch), .pu (.int (k : Int))], by simp, some (.int (k : Int)), ?_⟩
    have en : enough zs ch k = decide (ch.1 * z.2 ≤ z.1 * ch.2) := by
      simp only [enough, e1]
      by_cases hh : ch.1 * z.2 ≤ z.1 * ch.2
      · rw [decide_eq_true hh, Nat.ble_eq.mpr hh]
      · rw [decide_eq_false hh]
        cases hb : Nat.ble (ch.1 * z.2) (z.1 * ch.2) with
        | false => rfl
        | true => exact absurd (Nat.ble_eq.mp hb) hh
    rw [en]
    generalize qd (0, 1) = w at li ⊢
    by_cases hh : ch.1 * z.2 ≤ z.1 * ch.2
    · have h3 : (0 : Int) ≤ ((z.1 * ch.2 : Nat) : Int) - ((ch.1 * z.2 : Nat) : Int) := by omega
      have h4 : decide ((0 : Int) ≤ ((z.1 * ch.2 : Nat) : Int) - ((ch.1 * z.2 : Nat) : Int)) = true := decide_eq_true h3
      have h5 := Int.ofNat_le.mpr hh
      simp only [Int.natCast_mul] at h4 h5 ld
      simp [li, ld, hh, h4, h5]
    · have h3 : ¬ (0 : Int) ≤ ((z.1 * ch.2 : Nat) : Int) - ((ch.1 * z.2 : Nat) : Int) := by omega
      have h4 : decide ((0 : Int) ≤ ((z.1 * ch.2 : Nat) : Int) - ((ch.1 * z.2 : Nat) : Int)) = false := decide_eq_false h3
      have h5 : ((z.1 * ch.2 : Nat) : Int) < ((ch.1 * z.2 : Nat) : Int) := by omega
      simp only [Int.natCast_mul] at h4 h5 ld
      simp [li, ld, hh, h4, h5]) none
  have ar := are_rates_ok hf h1
  have w := need_whole_ok (v := (steps : Int)) (lo := 0) (hi := 30) (by omega) (by omega)
  have ns : g_need_small [qd ch] = .ok .non := by simp [g_need_small, b_need_small, is_small_ok hc]
  have s1 : S1_spares_needed [.pu (qd f), .pu (qd (0, 1)), .pu (.int (steps : Int)), .pu (qd ch), .em] = .ok ((List.range 7).map fun k : Nat => D.int (k : Int), [.pu (qd f), .pu (qd (0, 1)), .pu (.int (steps : Int)), .pu (qd ch), .em]) :=
    iCall_ok (g := fRange) (fs := aCons (eOp dAdd (eC (.int 6)) (eC (.int 1))) aNil) (ds := [.int 7]) (by simp) hr7
  have sp : g_spares_needed [qd f, qd (0, 1), .int (steps : Int), qd ch] = .ok (match (List.range 7).find? (enough zs ch) with
    | some j => .int (j : Int)
    | none => .non) := by
    show outRes (sSeq _ _ (startE 5 [qd f, qd (0, 1), .int (steps : Int), qd ch])) = _
    refine out_seq (ε1 := [.pu (qd f), .pu (qd (0, 1)), .pu (.int (steps : Int)), .pu (qd ch), .em]) ?_ (out_seq (ε1 := [.pu (qd f), .pu (qd (0, 1)), .pu (.int (steps : Int)), .pu (qd ch), .em]) (by simp [w]) (out_seq (ε1 := [.pu (qd f), .pu (qd (0, 1)), .pu (.int (steps : Int)), .pu (qd ch), .em]) (by simp [ns]) ?_))
    · generalize qd (0, 1) = w at ar ⊢
      simp [ar]
    · have ee : sFor S1_spares_needed T1_spares_needed B1_spares_needed [.pu (qd f), .pu (qd (0, 1)), .pu (.int (steps : Int)), .pu (qd ch), .em] = forF T1_spares_needed B1_spares_needed ((List.range 7).map fun k : Nat => D.int (k : Int)) [.pu (qd f), .pu (qd (0, 1)), .pu (.int (steps : Int)), .pu (qd ch), .em] := by
        simp only [sFor, s1, Res.out]
      replace ee := ee.trans e
      cases hfd : (List.range 7).find? (enough zs ch) with
      | none =>
        rw [hfd] at ee
        simp [ee]
      | some j =>
        rw [hfd] at ee
        simp [ee]
  have hd : ((List.range 7).filter (enough zs ch)).head? = (List.range 7).find? (enough zs ch) := List.head?_filter
  show outRes (sSeq _ _ (startE 6 [qd f, .int (steps : Int), qd ch])) = _
  refine out_seq (ε1 := [.pu (qd f), .pu (.int (steps : Int)), .pu (qd ch), .pu (.tup ((List.replicate steps (restL f)).map qd)), .em, .em]) (by simp [lr, r2, -List.map_replicate]) (out_seq (ε1 := [.pu (qd f), .pu (.int (steps : Int)), .pu (qd ch), .pu (.tup ((List.replicate steps (restL f)).map qd)), .pu (.lst (((List.range 7).filter (enough zs ch)).map fun k : Nat => D.int (k : Int))), .em]) ?_ ?_)
  · simp only [sTg, eL, c, Res.bind_ok, Res.out]
    rfl
  · have dn := dNe_ints ((List.range 7).filter (enough zs ch))
    cases hfl : (List.range 7).filter (enough zs ch) with
    | nil =>
      rw [hfl] at hd dn
      rw [← hd] at sp
      simp only [List.head?_nil] at sp
      refine out_ret (ε1 := [.pu (qd f), .pu (.int (steps : Int)), .pu (qd ch), .pu (.tup ((List.replicate steps (restL f)).map qd)), .pu (.lst []), .em]) ?_
      simp only [List.map_nil] at dn
      generalize hw : qd (0, 1) = w at sp q0
      simp [q0, sp, dn, dEq_non, -List.map_replicate]
    | cons x xs =>
      rw [hfl] at hd dn
      rw [← hd] at sp
      simp only [List.head?_cons] at sp
      refine out_ret (ε1 := [.pu (qd f), .pu (.int (steps : Int)), .pu (qd ch), .pu (.tup ((List.replicate steps (restL f)).map qd)), .pu (.lst ((x :: xs).map fun k : Nat => D.int (k : Int))), .em]) ?_
      simp only [List.map_cons] at dn
      generalize hw : qd (0, 1) = w at sp q0
      have i0 : ∀ ys : List D, dIx (.lst (.int (x : Int) :: ys)) (.int 0) = .ok (.int (x : Int)) := fun ys => by simp
      simp [q0, sp, dn, dEq_int, i0, -dIx, -List.map_replicate]
end W92
namespace W92
open PySem L2 PL

theorem cup_ok (ns : List Int) (hl : ns.length ≤ 63) : ∃ a b : Int, g__law_cup [.scr ns] = .ok [.int a, .int b] := by
  have hx : ∃ v : Int, L2.atI (ns.map D.int ++ [D.int 0]) 0 = some (.int v) := by
    cases ns with
    | nil => exact ⟨0, rfl⟩
    | cons n ns => exact ⟨n, L2.atI_nat (j := 0) (by simp)⟩
  obtain ⟨v, hv⟩ := hx
  have z : ns.length + 1 ≤ 1000000 := by omega
  have m : ∀ c : Int, mulOk c 467 = true := fun c => by simp [mulOk]; exact .inr (by decide)
  have d1 : divOk 223 = true := by decide
  have p1 : dPow (.int 10) (.int 18) = .ok (.int 1000000000000000000) := by rfl
  have f1 : fList [.scr ns] = .ok (ns.map D.int) := rfl
  obtain ⟨c, hc⟩ : ∃ c : Int, fAbs [.int v] = .ok (.int c) := ⟨_, rfl⟩
  have e1 : b1__law_cup (startE 2 [.scr ns]) = .nx [.pu (.scr ns), .pu (.int c)] := by simp [b1__law_cup, eCN, f1, dCat, z, hv, hc, -s_atI, -s_ixN]
  by_cases h : (1000000000000000000 : Int) ≤ c
  · have e2 : b2__law_cup [.pu (.scr ns), .pu (.int c)] = .ok ([.int (c.fdiv 223), .int ((c * 467 + 7151).fmod 99901 + 331)], [.pu (.scr ns), .pu (.int c)]) := by simp [b2__law_cup, dMul, m, p1, dDiv, d1, dMod, fInt, h]
    exact ⟨_, _, by simp only [g__law_cup, e1, e2, Res.bind_ok]; rfl⟩
  · have e2 : b2__law_cup [.pu (.scr ns), .pu (.int c)] = .ok ([.int 0, .int ((c * 467 + 7151).fmod 99901 + 331)], [.pu (.scr ns), .pu (.int c)]) := by simp [b2__law_cup, dMul, m, p1, dDiv, d1, dMod, fInt, h]
    exact ⟨_, _, by simp only [g__law_cup, e1, e2, Res.bind_ok]; rfl⟩
theorem roll_ok (a b M : Int) (many : Nat) (hM : M = (many : Int)) (h1 : 1 ≤ many) (h2 : many < 2 ^ 60) : ∃ (r : Nat) (a' b' : Int), r < many ∧ g__law_roll [.int a, .int b] [.int M] = .ok (.int (r : Int), [.int a', .int b']) := by
  subst hM
  have hm : (many : Int) ≠ 0 := by omega
  have hm' : many ≠ 0 := by omega
  have hd : divOk (many : Int) = true := by
    simp only [divOk, Int.natAbs_natCast, decide_eq_true_eq]
    refine ⟨hm, ?_⟩
    rw [Nat.log2_lt hm']
    exact Nat.lt_trans h2 (Nat.pow_lt_pow_right (by decide) (by decide))
  have d23 : divOk 23 = true := by decide
  have m : ∀ c : Int, mulOk c 103 = true := fun c => by simp [mulOk]; exact .inr (by decide)
  have fm : ∀ x : Int, ∃ r : Nat, r < many ∧ x.fmod (many : Int) = (r : Int) := fun x => by
    refine ⟨(x.fmod (many : Int)).toNat, ?_, ?_⟩
    · have g1 := Int.fmod_lt_of_pos x (show (0 : Int) < (many : Int) by omega)
      have g2 := Int.fmod_nonneg_of_pos x (show (0 : Int) < (many : Int) by omega)
      omega
    · have g2 := Int.fmod_nonneg_of_pos x (show (0 : Int) < (many : Int) by omega)
      omega
  by_cases h : 0 < a
  · obtain ⟨r, hr, e⟩ := fm a
    refine ⟨r, a.fdiv many, b, hr, ?_⟩
    simp [g__law_roll, b__law_roll, outC, startC, h, dMod, fInt, hm, hm', e, sSetIx, dDiv, hd]
  · obtain ⟨r, hr, e⟩ := fm (((b * 103 + 1823).fmod 99901).fdiv 23)
    refine ⟨r, a, (b * 103 + 1823).fmod 99901, hr, ?_⟩
    simp [g__law_roll, b__law_roll, outC, startC, h, dMod, fInt, hm, hm', e, sSetIx, dDiv, d23, dMul, m]

/-! the law -/
structure Tables : Prop where
  lad : ∀ n, n < 6 → ∀ i, i < 5 → ∀ j, j < 4 → ∀ k, k < 5 → ∀ l, l < 4 → ∀ f u : Q, f = lowN (1 + i) (5 + j) → u = lowN (1 + k) (5 + l) → rightN (1 + n) f u = true ∧ fewB (1 + n) f u = true ∧ ∃ S z, sharesN (1 + n) (1 + n) f u = some S ∧ meanN S = some z ∧ ∀ m, m < 1 + n → fewA (1 + n) (1 + m) f u z = true
  spr : ∀ i, i < 5 → ∀ j, j < 4 → ∀ st : Nat, st < 9 → ∀ s : Nat, s < 5 → ∃ J P, g_justs_in [.int (st : Int)] = .ok (.lst (J.map pd)) ∧ spareN s (lowN (1 + i) (5 + j)) st J P = true
  ned : ∀ i, i < 5 → ∀ j, j < 4 → ∀ st : Nat, st < 9 → ∀ c, c < 11 → ∃ zs, needOk (lowN (1 + i) (5 + j)) st = true ∧ tabN (lowN (1 + i) (5 + j)) st = some zs ∧ smok (lowN c 10) = true ∧ chk7 zs (lowN c 10) = true
def S0 (ns : List Int) (cs : List D) (b : Option D × Option D × Option D × Option D × Option D × Option D × Option D) : Ev := [.pu (.scr ns), .ow cs, jk b.1, jk b.2.1, jk b.2.2.1, jk b.2.2.2.1, jk b.2.2.2.2.1, jk b.2.2.2.2.2.1, jk b.2.2.2.2.2.2]
theorem foldO_unit {ι : Type} : ∀ xs : List ι, foldO (fun (_ : Unit) (_ : ι) => some ()) xs () = some ()
  | [] => rfl
  | _ :: xs => by simp only [foldO, foldO_unit xs]
theorem seq_nx {f g : Ev → Out} {ε ε1 ε2 : Ev} (h : f ε = .nx ε1) (h2 : g ε1 = .nx ε2) : sSeq f g ε = .nx ε2 := by rw [sSeq_nx h]; exact h2
theorem loop1 (T : Tables) (ns : List Int) (a b : Int) : ∃ a' b' : Int, ∃ j, sFor S1_law T1_law B1_law (S0 ns [.int a, .int b] (none, none, none, none, none, none, none)) = .nx (S0 ns [.int a', .int b'] j) := by
  obtain ⟨bb, e⟩ := sFor_fold (src := S1_law) (tgt := T1_law) (body := B1_law) (fun k : Nat => D.int (k : Int)) (fun (_ : Unit) (_ : Nat) => some ()) (fun (_ : Unit) (b : (Int × Int) × (Option D × Option D × Option D × Option D × Option D × Option D × Option D)) => S0 ns [.int b.1.1, .int b.1.2] b.2)
    (ε := S0 ns [.int a, .int b] (none, none, none, none, none, none, none)) (ε1 := S0 ns [.int a, .int b] (none, none, none, none, none, none, none)) (xs := List.range 6) (b := ((a, b), (none, none, none, none, none, none, none))) (foldO_unit _)
    (iCall_ok (g := fRange) (fs := aCons (eC (.int 6)) aNil) (ds := [.int 6]) (by simp) (fRange1 (k := 6) (by rfl) (by omega))) rfl rfl
    (fun _ x turn _ _ => by
      obtain ⟨⟨a, b⟩, j1, j2, j3, j4, j5, j6, j7⟩ := x
      refine ⟨S0 ns [.int a, .int b] (some (.int (turn : Int)), j2, j3, j4, j5, j6, j7), by simp [S0], ?_⟩
      obtain ⟨n, a1, b1, hn, r1⟩ := roll_ok a b 6 6 (by rfl) (by omega) (by decide)
      obtain ⟨i, a2, b2, hi, r2⟩ := roll_ok a1 b1 5 5 (by rfl) (by omega) (by decide)
      obtain ⟨j, a3, b3, hj, r3⟩ := roll_ok a2 b2 4 4 (by rfl) (by omega) (by decide)
      obtain ⟨k, a4, b4, hk, r4⟩ := roll_ok a3 b3 5 5 (by rfl) (by omega) (by decide)
      obtain ⟨l, a5, b5, hl, r5⟩ := roll_ok a4 b4 4 4 (by rfl) (by omega) (by decide)
      obtain ⟨m, a6, b6, hm, r6⟩ := roll_ok a5 b5 (1 + (n : Int)) (1 + n) (by omega) (by omega) (Nat.lt_trans (show 1 + n < 8 by omega) (by decide))
      obtain ⟨st, a7, b7, hst, r7⟩ := roll_ok a6 b6 9 9 (by rfl) (by omega) (by decide)
      obtain ⟨s, a8, b8, hs, r8⟩ := roll_ok a7 b7 5 5 (by rfl) (by omega) (by decide)
      obtain ⟨c, a9, b9, hc, r9⟩ := roll_ok a8 b8 11 11 (by rfl) (by omega) (by decide)
      have lf := law_low_nat (t := 1 + i) (b := 5 + j) (by omega) (Nat.lt_trans (show 5 + j < 16 by omega) (by decide))
      have lu := law_low_nat (t := 1 + k) (b := 5 + l) (by omega) (Nat.lt_trans (show 5 + l < 16 by omega) (by decide))
      have lc := law_low_nat (t := c) (b := 10) (by omega) (by decide)
      obtain ⟨t1, t2, S, z, t3, t4, t5⟩ := T.lad n hn i hi j hj k hk l hl _ _ rfl rfl
      have g1 := ladder_right_ok t1
      have g2 := few_right_ok t3 t4 (t5 m hm) t2
      obtain ⟨J, P, u1, u2⟩ := T.spr i hi j hj st hst s hs
      have g3 := spares_right_ok u1 u2
      obtain ⟨zs, v1, v2, v3, v4⟩ := T.ned i hi j hj st hst c hc
      have g4 := needed_right_ok v1 v2 v3 v4
      have e1 : ((1 + n : Nat) : Int) = 1 + (n : Int) := by omega
      have e2 : ((1 + m : Nat) : Int) = 1 + (m : Int) := by omega
      have e3 : ((1 + i : Nat) : Int) = 1 + (i : Int) := by omega
      have e4 : ((5 + j : Nat) : Int) = 5 + (j : Int) := by omega
      have e5 : ((1 + k : Nat) : Int) = 1 + (k : Int) := by omega
      have e6 : ((5 + l : Nat) : Int) = 5 + (l : Int) := by omega
      have e7 : ((10 : Nat) : Int) = 10 := rfl
      rw [e3, e4] at lf
      rw [e5, e6] at lu
      rw [e7] at lc
      rw [e1] at g1 g2
      rw [e2] at g2
      generalize lowN (1 + i) (5 + j) = f at lf g1 g2 g3 g4
      generalize lowN (1 + k) (5 + l) = u at lu g1 g2
      generalize lowN c 10 = ch at lc g4
      refine ⟨((a9, b9), (some (.int (turn : Int)), some (.int (1 + (n : Int))), some (qd f), some (qd u), some (.int (st : Int)), j6, j7)), ?_⟩
      refine seq_nx (ε1 := S0 ns [.int a1, .int b1] (some (.int (turn : Int)), some (.int (1 + (n : Int))), j3, j4, j5, j6, j7)) (by simp [S0, eCallC, r1]) ?_
      refine seq_nx (ε1 := S0 ns [.int a3, .int b3] (some (.int (turn : Int)), some (.int (1 + (n : Int))), some (qd f), j4, j5, j6, j7)) (by simp [S0, eCallC, r2, r3, lf]) ?_
      refine seq_nx (ε1 := S0 ns [.int a5, .int b5] (some (.int (turn : Int)), some (.int (1 + (n : Int))), some (qd f), some (qd u), j5, j6, j7)) (by simp [S0, eCallC, r4, r5, lu]) ?_
      refine seq_nx (ε1 := S0 ns [.int a6, .int b6] (some (.int (turn : Int)), some (.int (1 + (n : Int))), some (qd f), some (qd u), j5, j6, j7)) (by simp [S0, eCallC, r6, g1, g2]) ?_
      refine seq_nx (ε1 := S0 ns [.int a7, .int b7] (some (.int (turn : Int)), some (.int (1 + (n : Int))), some (qd f), some (qd u), some (.int (st : Int)), j6, j7)) (by simp [S0, eCallC, r7]) ?_
      refine seq_nx (ε1 := S0 ns [.int a8, .int b8] (some (.int (turn : Int)), some (.int (1 + (n : Int))), some (qd f), some (qd u), some (.int (st : Int)), j6, j7)) (by simp [S0, eCallC, r8, g3]) ?_
      simp [S0, eCallC, r9, lc, g4])
  exact ⟨_, _, _, e⟩
end W92
namespace W92
open PySem L2 PL

def FA : List Q := [(1, 5), (1, 6), (1, 7), (1, 8), (2, 5)]
def FB : List Q := [(1, 3), (2, 7), (1, 4), (3, 5), (1, 2)]
def FC : List Q := [(3, 7), (3, 8), (4, 5), (2, 3), (4, 7)]
def FD : List Q := [(1, 1), (5, 6), (5, 7), (5, 8)]
def FL : List Q := FA ++ (FB ++ (FC ++ FD))
theorem all_fl {p : Q → Bool} (a : FA.all p = true) (b : FB.all p = true) (c : FC.all p = true) (d : FD.all p = true) {f : Q} (h : f ∈ FL) : p f = true := by
  unfold FL at h
  simp only [List.mem_append] at h
  rcases h with h | h | h | h
  · exact List.all_eq_true.mp a f h
  · exact List.all_eq_true.mp b f h
  · exact List.all_eq_true.mp c f h
  · exact List.all_eq_true.mp d f h
theorem flm : ∀ i, i < 5 → ∀ j, j < 4 → lowN (1 + i) (5 + j) ∈ FL := by decide +kernel
def ladN (n : Nat) (f u : Q) : Bool := rightN n f u && fewB n f u && (match sharesN n n f u with
  | some S => match meanN S with
    | some z => (List.range n).all fun m => fewA n (1 + m) f u z
    | none => false
  | none => false)
theorem ladN_of {n : Nat} {f u : Q} (h : ladN n f u = true) : rightN n f u = true ∧ fewB n f u = true ∧ ∃ S z, sharesN n n f u = some S ∧ meanN S = some z ∧ ∀ m, m < n → fewA n (1 + m) f u z = true := by
  unfold ladN at h
  simp only [Bool.and_eq_true] at h
  obtain ⟨⟨h1, h2⟩, h3⟩ := h
  refine ⟨h1, h2, ?_⟩
  split at h3
  case h_2 => cases h3
  rename_i S eS
  split at h3
  case h_2 => cases h3
  rename_i z ez
  exact ⟨S, z, eS, ez, fun m hm => List.all_eq_true.mp h3 m (List.mem_range.mpr hm)⟩
theorem lad0AA : (FA.all fun f => FA.all fun u => ladN (1 + 0) f u) = true := by decide +kernel
theorem lad0AB : (FA.all fun f => FB.all fun u => ladN (1 + 0) f u) = true := by decide +kernel
theorem lad0AC : (FA.all fun f => FC.all fun u => ladN (1 + 0) f u) = true := by decide +kernel
theorem lad0AD : (FA.all fun f => FD.all fun u => ladN (1 + 0) f u) = true := by decide +kernel
theorem lad0BA : (FB.all fun f => FA.all fun u => ladN (1 + 0) f u) = true := by decide +kernel
theorem lad0BB : (FB.all fun f => FB.all fun u => ladN (1 + 0) f u) = true := by decide +kernel
theorem lad0BC : (FB.all fun f => FC.all fun u => ladN (1 + 0) f u) = true := by decide +kernel
theorem lad0BD : (FB.all fun f => FD.all fun u => ladN (1 + 0) f u) = true := by decide +kernel
theorem lad0CA : (FC.all fun f => FA.all fun u => ladN (1 + 0) f u) = true := by decide +kernel
theorem lad0CB : (FC.all fun f => FB.all fun u => ladN (1 + 0) f u) = true := by decide +kernel
theorem lad0CC : (FC.all fun f => FC.all fun u => ladN (1 + 0) f u) = true := by decide +kernel
theorem lad0CD : (FC.all fun f => FD.all fun u => ladN (1 + 0) f u) = true := by decide +kernel
theorem lad0DA : (FD.all fun f => FA.all fun u => ladN (1 + 0) f u) = true := by decide +kernel
theorem lad0DB : (FD.all fun f => FB.all fun u => ladN (1 + 0) f u) = true := by decide +kernel
theorem lad0DC : (FD.all fun f => FC.all fun u => ladN (1 + 0) f u) = true := by decide +kernel
theorem lad0DD : (FD.all fun f => FD.all fun u => ladN (1 + 0) f u) = true := by decide +kernel
theorem lad1AA : (FA.all fun f => FA.all fun u => ladN (1 + 1) f u) = true := by decide +kernel
theorem lad1AB : (FA.all fun f => FB.all fun u => ladN (1 + 1) f u) = true := by decide +kernel
theorem lad1AC : (FA.all fun f => FC.all fun u => ladN (1 + 1) f u) = true := by decide +kernel
theorem lad1AD : (FA.all fun f => FD.all fun u => ladN (1 + 1) f u) = true := by decide +kernel
theorem lad1BA : (FB.all fun f => FA.all fun u => ladN (1 + 1) f u) = true := by decide +kernel
theorem lad1BB : (FB.all fun f => FB.all fun u => ladN (1 + 1) f u) = true := by decide +kernel
theorem lad1BC : (FB.all fun f => FC.all fun u => ladN (1 + 1) f u) = true := by decide +kernel
theorem lad1BD : (FB.all fun f => FD.all fun u => ladN (1 + 1) f u) = true := by decide +kernel
theorem lad1CA : (FC.all fun f => FA.all fun u => ladN (1 + 1) f u) = true := by decide +kernel
theorem lad1CB : (FC.all fun f => FB.all fun u => ladN (1 + 1) f u) = true := by decide +kernel
theorem lad1CC : (FC.all fun f => FC.all fun u => ladN (1 + 1) f u) = true := by decide +kernel
theorem lad1CD : (FC.all fun f => FD.all fun u => ladN (1 + 1) f u) = true := by decide +kernel
theorem lad1DA : (FD.all fun f => FA.all fun u => ladN (1 + 1) f u) = true := by decide +kernel
theorem lad1DB : (FD.all fun f => FB.all fun u => ladN (1 + 1) f u) = true := by decide +kernel
theorem lad1DC : (FD.all fun f => FC.all fun u => ladN (1 + 1) f u) = true := by decide +kernel
theorem lad1DD : (FD.all fun f => FD.all fun u => ladN (1 + 1) f u) = true := by decide +kernel
theorem lad2AA : (FA.all fun f => FA.all fun u => ladN (1 + 2) f u) = true := by decide +kernel
theorem lad2AB : (FA.all fun f => FB.all fun u => ladN (1 + 2) f u) = true := by decide +kernel
theorem lad2AC : (FA.all fun f => FC.all fun u => ladN (1 + 2) f u) = true := by decide +kernel
theorem lad2AD : (FA.all fun f => FD.all fun u => ladN (1 + 2) f u) = true := by decide +kernel
theorem lad2BA : (FB.all fun f => FA.all fun u => ladN (1 + 2) f u) = true := by decide +kernel
theorem lad2BB : (FB.all fun f => FB.all fun u => ladN (1 + 2) f u) = true := by decide +kernel
theorem lad2BC : (FB.all fun f => FC.all fun u => ladN (1 + 2) f u) = true := by decide +kernel
theorem lad2BD : (FB.all fun f => FD.all fun u => ladN (1 + 2) f u) = true := by decide +kernel
theorem lad2CA : (FC.all fun f => FA.all fun u => ladN (1 + 2) f u) = true := by decide +kernel
theorem lad2CB : (FC.all fun f => FB.all fun u => ladN (1 + 2) f u) = true := by decide +kernel
theorem lad2CC : (FC.all fun f => FC.all fun u => ladN (1 + 2) f u) = true := by decide +kernel
theorem lad2CD : (FC.all fun f => FD.all fun u => ladN (1 + 2) f u) = true := by decide +kernel
theorem lad2DA : (FD.all fun f => FA.all fun u => ladN (1 + 2) f u) = true := by decide +kernel
theorem lad2DB : (FD.all fun f => FB.all fun u => ladN (1 + 2) f u) = true := by decide +kernel
theorem lad2DC : (FD.all fun f => FC.all fun u => ladN (1 + 2) f u) = true := by decide +kernel
theorem lad2DD : (FD.all fun f => FD.all fun u => ladN (1 + 2) f u) = true := by decide +kernel
theorem lad3AA : (FA.all fun f => FA.all fun u => ladN (1 + 3) f u) = true := by decide +kernel
theorem lad3AB : (FA.all fun f => FB.all fun u => ladN (1 + 3) f u) = true := by decide +kernel
theorem lad3AC : (FA.all fun f => FC.all fun u => ladN (1 + 3) f u) = true := by decide +kernel
theorem lad3AD : (FA.all fun f => FD.all fun u => ladN (1 + 3) f u) = true := by decide +kernel
theorem lad3BA : (FB.all fun f => FA.all fun u => ladN (1 + 3) f u) = true := by decide +kernel
theorem lad3BB : (FB.all fun f => FB.all fun u => ladN (1 + 3) f u) = true := by decide +kernel
theorem lad3BC : (FB.all fun f => FC.all fun u => ladN (1 + 3) f u) = true := by decide +kernel
theorem lad3BD : (FB.all fun f => FD.all fun u => ladN (1 + 3) f u) = true := by decide +kernel
theorem lad3CA : (FC.all fun f => FA.all fun u => ladN (1 + 3) f u) = true := by decide +kernel
theorem lad3CB : (FC.all fun f => FB.all fun u => ladN (1 + 3) f u) = true := by decide +kernel
theorem lad3CC : (FC.all fun f => FC.all fun u => ladN (1 + 3) f u) = true := by decide +kernel
theorem lad3CD : (FC.all fun f => FD.all fun u => ladN (1 + 3) f u) = true := by decide +kernel
theorem lad3DA : (FD.all fun f => FA.all fun u => ladN (1 + 3) f u) = true := by decide +kernel
theorem lad3DB : (FD.all fun f => FB.all fun u => ladN (1 + 3) f u) = true := by decide +kernel
theorem lad3DC : (FD.all fun f => FC.all fun u => ladN (1 + 3) f u) = true := by decide +kernel
theorem lad3DD : (FD.all fun f => FD.all fun u => ladN (1 + 3) f u) = true := by decide +kernel
theorem lad4AA : (FA.all fun f => FA.all fun u => ladN (1 + 4) f u) = true := by decide +kernel
theorem lad4AB : (FA.all fun f => FB.all fun u => ladN (1 + 4) f u) = true := by decide +kernel
theorem lad4AC : (FA.all fun f => FC.all fun u => ladN (1 + 4) f u) = true := by decide +kernel
theorem lad4AD : (FA.all fun f => FD.all fun u => ladN (1 + 4) f u) = true := by decide +kernel
theorem lad4BA : (FB.all fun f => FA.all fun u => ladN (1 + 4) f u) = true := by decide +kernel
theorem lad4BB : (FB.all fun f => FB.all fun u => ladN (1 + 4) f u) = true := by decide +kernel
theorem lad4BC : (FB.all fun f => FC.all fun u => ladN (1 + 4) f u) = true := by decide +kernel
theorem lad4BD : (FB.all fun f => FD.all fun u => ladN (1 + 4) f u) = true := by decide +kernel
theorem lad4CA : (FC.all fun f => FA.all fun u => ladN (1 + 4) f u) = true := by decide +kernel
theorem lad4CB : (FC.all fun f => FB.all fun u => ladN (1 + 4) f u) = true := by decide +kernel
theorem lad4CC : (FC.all fun f => FC.all fun u => ladN (1 + 4) f u) = true := by decide +kernel
theorem lad4CD : (FC.all fun f => FD.all fun u => ladN (1 + 4) f u) = true := by decide +kernel
theorem lad4DA : (FD.all fun f => FA.all fun u => ladN (1 + 4) f u) = true := by decide +kernel
theorem lad4DB : (FD.all fun f => FB.all fun u => ladN (1 + 4) f u) = true := by decide +kernel
theorem lad4DC : (FD.all fun f => FC.all fun u => ladN (1 + 4) f u) = true := by decide +kernel
theorem lad4DD : (FD.all fun f => FD.all fun u => ladN (1 + 4) f u) = true := by decide +kernel
theorem lad5AA : (FA.all fun f => FA.all fun u => ladN (1 + 5) f u) = true := by decide +kernel
theorem lad5AB : (FA.all fun f => FB.all fun u => ladN (1 + 5) f u) = true := by decide +kernel
theorem lad5AC : (FA.all fun f => FC.all fun u => ladN (1 + 5) f u) = true := by decide +kernel
theorem lad5AD : (FA.all fun f => FD.all fun u => ladN (1 + 5) f u) = true := by decide +kernel
theorem lad5BA : (FB.all fun f => FA.all fun u => ladN (1 + 5) f u) = true := by decide +kernel
theorem lad5BB : (FB.all fun f => FB.all fun u => ladN (1 + 5) f u) = true := by decide +kernel
theorem lad5BC : (FB.all fun f => FC.all fun u => ladN (1 + 5) f u) = true := by decide +kernel
theorem lad5BD : (FB.all fun f => FD.all fun u => ladN (1 + 5) f u) = true := by decide +kernel
theorem lad5CA : (FC.all fun f => FA.all fun u => ladN (1 + 5) f u) = true := by decide +kernel
theorem lad5CB : (FC.all fun f => FB.all fun u => ladN (1 + 5) f u) = true := by decide +kernel
theorem lad5CC : (FC.all fun f => FC.all fun u => ladN (1 + 5) f u) = true := by decide +kernel
theorem lad5CD : (FC.all fun f => FD.all fun u => ladN (1 + 5) f u) = true := by decide +kernel
theorem lad5DA : (FD.all fun f => FA.all fun u => ladN (1 + 5) f u) = true := by decide +kernel
theorem lad5DB : (FD.all fun f => FB.all fun u => ladN (1 + 5) f u) = true := by decide +kernel
theorem lad5DC : (FD.all fun f => FC.all fun u => ladN (1 + 5) f u) = true := by decide +kernel
theorem lad5DD : (FD.all fun f => FD.all fun u => ladN (1 + 5) f u) = true := by decide +kernel
def jt (n : Nat) : List (List Int) := match n with
  | 0 => [[1]]
  | 1 => [[1, -1], [0, 1]]
  | 2 => [[1, -2, 1], [0, 2, -2], [0, 0, 1]]
  | 3 => [[1, -3, 3, -1], [0, 3, -6, 3], [0, 0, 3, -3], [0, 0, 0, 1]]
  | 4 => [[1, -4, 6, -4, 1], [0, 4, -12, 12, -4], [0, 0, 6, -12, 6], [0, 0, 0, 4, -4], [0, 0, 0, 0, 1]]
  | 5 => [[1, -5, 10, -10, 5, -1], [0, 5, -20, 30, -20, 5], [0, 0, 10, -30, 30, -10], [0, 0, 0, 10, -20, 10], [0, 0, 0, 0, 5, -5], [0, 0, 0, 0, 0, 1]]
  | 6 => [[1, -6, 15, -20, 15, -6, 1], [0, 6, -30, 60, -60, 30, -6], [0, 0, 15, -60, 90, -60, 15], [0, 0, 0, 20, -60, 60, -20], [0, 0, 0, 0, 15, -30, 15], [0, 0, 0, 0, 0, 6, -6], [0, 0, 0, 0, 0, 0, 1]]
  | 7 => [[1, -7, 21, -35, 35, -21, 7, -1], [0, 7, -42, 105, -140, 105, -42, 7], [0, 0, 21, -105, 210, -210, 105, -21], [0, 0, 0, 35, -140, 210, -140, 35], [0, 0, 0, 0, 35, -105, 105, -35], [0, 0, 0, 0, 0, 21, -42, 21], [0, 0, 0, 0, 0, 0, 7, -7], [0, 0, 0, 0, 0, 0, 0, 1]]
  | 8 => [[1, -8, 28, -56, 70, -56, 28, -8, 1], [0, 8, -56, 168, -280, 280, -168, 56, -8], [0, 0, 28, -168, 420, -560, 420, -168, 28], [0, 0, 0, 56, -280, 560, -560, 280, -56], [0, 0, 0, 0, 70, -280, 420, -280, 70], [0, 0, 0, 0, 0, 56, -168, 168, -56], [0, 0, 0, 0, 0, 0, 28, -56, 28], [0, 0, 0, 0, 0, 0, 0, 8, -8], [0, 0, 0, 0, 0, 0, 0, 0, 1]]
  | 12 => [[1, -12, 66, -220, 495, -792, 924, -792, 495, -220, 66, -12, 1], [0, 12, -132, 660, -1980, 3960, -5544, 5544, -3960, 1980, -660, 132, -12], [0, 0, 66, -660, 2970, -7920, 13860, -16632, 13860, -7920, 2970, -660, 66], [0, 0, 0, 220, -1980, 7920, -18480, 27720, -27720, 18480, -7920, 1980, -220], [0, 0, 0, 0, 495, -3960, 13860, -27720, 34650, -27720, 13860, -3960, 495], [0, 0, 0, 0, 0, 792, -5544, 16632, -27720, 27720, -16632, 5544, -792], [0, 0, 0, 0, 0, 0, 924, -5544, 13860, -18480, 13860, -5544, 924], [0, 0, 0, 0, 0, 0, 0, 792, -3960, 7920, -7920, 3960, -792], [0, 0, 0, 0, 0, 0, 0, 0, 495, -1980, 2970, -1980, 495], [0, 0, 0, 0, 0, 0, 0, 0, 0, 220, -660, 660, -220], [0, 0, 0, 0, 0, 0, 0, 0, 0, 0, 66, -132, 66], [0, 0, 0, 0, 0, 0, 0, 0, 0, 0, 0, 12, -12], [0, 0, 0, 0, 0, 0, 0, 0, 0, 0, 0, 0, 1]]
  | _ => []
def pt (n k : Nat) : List Int := match n, k with
  | 0, 0 => [1]
  | 1, 0 => [1]
  | 1, 1 => [0, 1]
  | 2, 0 => [1]
  | 2, 1 => [0, 2, -1]
  | 2, 2 => [0, 0, 1]
  | 3, 0 => [1]
  | 3, 1 => [0, 3, -3, 1]
  | 3, 2 => [0, 0, 3, -2]
  | 3, 3 => [0, 0, 0, 1]
  | 4, 0 => [1]
  | 4, 1 => [0, 4, -6, 4, -1]
  | 4, 2 => [0, 0, 6, -8, 3]
  | 4, 3 => [0, 0, 0, 4, -3]
  | 4, 4 => [0, 0, 0, 0, 1]
  | 5, 1 => [0, 5, -10, 10, -5, 1]
  | 5, 2 => [0, 0, 10, -20, 15, -4]
  | 5, 3 => [0, 0, 0, 10, -15, 6]
  | 5, 4 => [0, 0, 0, 0, 5, -4]
  | 5, 5 => [0, 0, 0, 0, 0, 1]
  | 6, 2 => [0, 0, 15, -40, 45, -24, 5]
  | 6, 3 => [0, 0, 0, 20, -45, 36, -10]
  | 6, 4 => [0, 0, 0, 0, 15, -24, 10]
  | 6, 5 => [0, 0, 0, 0, 0, 6, -5]
  | 6, 6 => [0, 0, 0, 0, 0, 0, 1]
  | 7, 3 => [0, 0, 0, 35, -105, 126, -70, 15]
  | 7, 4 => [0, 0, 0, 0, 35, -84, 70, -20]
  | 7, 5 => [0, 0, 0, 0, 0, 21, -35, 15]
  | 7, 6 => [0, 0, 0, 0, 0, 0, 7, -6]
  | 7, 7 => [0, 0, 0, 0, 0, 0, 0, 1]
  | 8, 4 => [0, 0, 0, 0, 70, -224, 280, -160, 35]
  | 8, 5 => [0, 0, 0, 0, 0, 56, -140, 120, -35]
  | 8, 6 => [0, 0, 0, 0, 0, 0, 28, -48, 21]
  | 8, 7 => [0, 0, 0, 0, 0, 0, 0, 8, -7]
  | 8, 8 => [0, 0, 0, 0, 0, 0, 0, 0, 1]
  | 6, 0 => [1]
  | 7, 1 => [0, 7, -21, 35, -35, 21, -7, 1]
  | 12, 9 => [0, 0, 0, 0, 0, 0, 0, 0, 0, 220, -594, 540, -165]
  | _, _ => []
def spareR (s : Nat) (f : Q) (steps : Nat) (P : List Int) : Bool := sprOk s f && lrok f && Nat.ble steps 12 && chok (restL f) && (match chancesN s f (0, 1) steps with
  | some L => match totN L with
    | some z => match countsN (List.replicate steps (restL f)) with
      | some C => decide (totN (C.drop (steps - s)) = some z) && decide (valueN P (restL f) = some z) && (foldO (toldOk C L s steps) (List.range (s + 1)) ()).isSome
      | none => false
    | none => false
  | none => false)
theorem spare_of {s steps : Nat} {f : Q} {J : List (List Int)} {P : List Int} (h : spareR s f steps P = true) (h2 : atlIs steps (steps - s) J P = true) : spareN s f steps J P = true := by
  unfold spareR at h
  unfold spareN
  simp only [Bool.and_eq_true] at h ⊢
  exact ⟨⟨h.1, h2⟩, h.2⟩
theorem jt_a : ([0, 1, 2, 3, 4, 5, 6].all fun n : Nat => listIs (g_justs_in [.int (n : Int)]) (jt n)) = true := by decide +kernel
theorem jt_b : ([7, 8].all fun n : Nat => listIs (g_justs_in [.int (n : Int)]) (jt n)) = true := by decide +kernel
theorem jt_c : ([12].all fun n : Nat => listIs (g_justs_in [.int (n : Int)]) (jt n)) = true := by decide +kernel
theorem jt_ok : ([0, 1, 2, 3, 4, 5, 6, 7, 8, 12].all fun n : Nat => listIs (g_justs_in [.int (n : Int)]) (jt n)) = true := by
  have e : ([0, 1, 2, 3, 4, 5, 6, 7, 8, 12] : List Nat) = [0, 1, 2, 3, 4, 5, 6] ++ ([7, 8] ++ [12]) := rfl
  rw [e, List.all_append, List.all_append, jt_a, jt_b, jt_c]
  rfl
theorem pt_ok : (([(0, 0), (1, 0), (1, 1), (2, 0), (2, 1), (2, 2), (3, 0), (3, 1), (3, 2), (3, 3), (4, 0), (4, 1), (4, 2), (4, 3), (4, 4), (5, 1), (5, 2), (5, 3), (5, 4), (5, 5), (6, 2), (6, 3), (6, 4), (6, 5), (6, 6), (7, 3), (7, 4), (7, 5), (7, 6), (7, 7), (8, 4), (8, 5), (8, 6), (8, 7), (8, 8), (6, 0), (7, 1), (12, 9)] : List (Nat × Nat)).all fun p => atlIs p.1 p.2 (jt p.1) (pt p.1 p.2)) = true := by decide +kernel
theorem prs_mem : ∀ st, st < 9 → ∀ s, s < 5 → (st, st - s) ∈ ([(0, 0), (1, 0), (1, 1), (2, 0), (2, 1), (2, 2), (3, 0), (3, 1), (3, 2), (3, 3), (4, 0), (4, 1), (4, 2), (4, 3), (4, 4), (5, 1), (5, 2), (5, 3), (5, 4), (5, 5), (6, 2), (6, 3), (6, 4), (6, 5), (6, 6), (7, 3), (7, 4), (7, 5), (7, 6), (7, 7), (8, 4), (8, 5), (8, 6), (8, 7), (8, 8), (6, 0), (7, 1), (12, 9)] : List (Nat × Nat)) := by decide +kernel
theorem jt_mem : ∀ st, st < 9 → st ∈ [0, 1, 2, 3, 4, 5, 6, 7, 8, 12] := by decide +kernel
theorem spr0A : ((List.range 9).all fun st => FA.all fun f => spareR 0 f st (pt st (st - 0))) = true := by decide +kernel
theorem spr0B : ((List.range 9).all fun st => FB.all fun f => spareR 0 f st (pt st (st - 0))) = true := by decide +kernel
theorem spr0C : ((List.range 9).all fun st => FC.all fun f => spareR 0 f st (pt st (st - 0))) = true := by decide +kernel
theorem spr0D : ((List.range 9).all fun st => FD.all fun f => spareR 0 f st (pt st (st - 0))) = true := by decide +kernel
theorem spr1A : ((List.range 9).all fun st => FA.all fun f => spareR 1 f st (pt st (st - 1))) = true := by decide +kernel
theorem spr1B : ((List.range 9).all fun st => FB.all fun f => spareR 1 f st (pt st (st - 1))) = true := by decide +kernel
theorem spr1C : ((List.range 9).all fun st => FC.all fun f => spareR 1 f st (pt st (st - 1))) = true := by decide +kernel
theorem spr1D : ((List.range 9).all fun st => FD.all fun f => spareR 1 f st (pt st (st - 1))) = true := by decide +kernel
theorem spr2A : ((List.range 9).all fun st => FA.all fun f => spareR 2 f st (pt st (st - 2))) = true := by decide +kernel
theorem spr2B : ((List.range 9).all fun st => FB.all fun f => spareR 2 f st (pt st (st - 2))) = true := by decide +kernel
theorem spr2C : ((List.range 9).all fun st => FC.all fun f => spareR 2 f st (pt st (st - 2))) = true := by decide +kernel
theorem spr2D : ((List.range 9).all fun st => FD.all fun f => spareR 2 f st (pt st (st - 2))) = true := by decide +kernel
theorem spr3A : ((List.range 9).all fun st => FA.all fun f => spareR 3 f st (pt st (st - 3))) = true := by decide +kernel
theorem spr3B : ((List.range 9).all fun st => FB.all fun f => spareR 3 f st (pt st (st - 3))) = true := by decide +kernel
theorem spr3C : ((List.range 9).all fun st => FC.all fun f => spareR 3 f st (pt st (st - 3))) = true := by decide +kernel
theorem spr3D : ((List.range 9).all fun st => FD.all fun f => spareR 3 f st (pt st (st - 3))) = true := by decide +kernel
theorem spr4A : ((List.range 9).all fun st => FA.all fun f => spareR 4 f st (pt st (st - 4))) = true := by decide +kernel
theorem spr4B : ((List.range 9).all fun st => FB.all fun f => spareR 4 f st (pt st (st - 4))) = true := by decide +kernel
theorem spr4C : ((List.range 9).all fun st => FC.all fun f => spareR 4 f st (pt st (st - 4))) = true := by decide +kernel
theorem spr4D : ((List.range 9).all fun st => FD.all fun f => spareR 4 f st (pt st (st - 4))) = true := by decide +kernel
def nedN (f : Q) (st : Nat) : Bool := needOk f st && (match tabN f st with
  | some zs => (List.range 11).all fun c => smok (lowN c 10) && chk7 zs (lowN c 10)
  | none => false)
theorem ned_a : ((List.range 9).all fun st => FA.all fun f => nedN f st) = true := by decide +kernel
theorem ned_b : ((List.range 9).all fun st => FB.all fun f => nedN f st) = true := by decide +kernel
theorem ned_c : ((List.range 9).all fun st => FC.all fun f => nedN f st) = true := by decide +kernel
theorem ned_d : ((List.range 9).all fun st => FD.all fun f => nedN f st) = true := by decide +kernel
theorem tables : Tables where
  lad := fun n hn i hi j hj k hk l hl f u hf hu => by
    subst hf
    subst hu
    have h1 := flm i hi j hj
    have h2 := flm k hk l hl
    have h : ladN (1 + n) (lowN (1 + i) (5 + j)) (lowN (1 + k) (5 + l)) = true := by
      generalize lowN (1 + i) (5 + j) = f at h1
      generalize lowN (1 + k) (5 + l) = u at h2
      have hc : n = 0 ∨ n = 1 ∨ n = 2 ∨ n = 3 ∨ n = 4 ∨ n = 5 := by omega
      rcases hc with rfl | rfl | rfl | rfl | rfl | rfl
      · exact all_fl (p := fun f => ladN (1 + 0) f u) (List.all_eq_true.mpr fun f hf => all_fl (p := fun u => ladN (1 + 0) f u) (List.all_eq_true.mp lad0AA f hf) (List.all_eq_true.mp lad0AB f hf) (List.all_eq_true.mp lad0AC f hf) (List.all_eq_true.mp lad0AD f hf) h2) (List.all_eq_true.mpr fun f hf => all_fl (p := fun u => ladN (1 + 0) f u) (List.all_eq_true.mp lad0BA f hf) (List.all_eq_true.mp lad0BB f hf) (List.all_eq_true.mp lad0BC f hf) (List.all_eq_true.mp lad0BD f hf) h2) (List.all_eq_true.mpr fun f hf => all_fl (p := fun u => ladN (1 + 0) f u) (List.all_eq_true.mp lad0CA f hf) (List.all_eq_true.mp lad0CB f hf) (List.all_eq_true.mp lad0CC f hf) (List.all_eq_true.mp lad0CD f hf) h2) (List.all_eq_true.mpr fun f hf => all_fl (p := fun u => ladN (1 + 0) f u) (List.all_eq_true.mp lad0DA f hf) (List.all_eq_true.mp lad0DB f hf) (List.all_eq_true.mp lad0DC f hf) (List.all_eq_true.mp lad0DD f hf) h2) h1
      · exact all_fl (p := fun f => ladN (1 + 1) f u) (List.all_eq_true.mpr fun f hf => all_fl (p := fun u => ladN (1 + 1) f u) (List.all_eq_true.mp lad1AA f hf) (List.all_eq_true.mp lad1AB f hf) (List.all_eq_true.mp lad1AC f hf) (List.all_eq_true.mp lad1AD f hf) h2) (List.all_eq_true.mpr fun f hf => all_fl (p := fun u => ladN (1 + 1) f u) (List.all_eq_true.mp lad1BA f hf) (List.all_eq_true.mp lad1BB f hf) (List.all_eq_true.mp lad1BC f hf) (List.all_eq_true.mp lad1BD f hf) h2) (List.all_eq_true.mpr fun f hf => all_fl (p := fun u => ladN (1 + 1) f u) (List.all_eq_true.mp lad1CA f hf) (List.all_eq_true.mp lad1CB f hf) (List.all_eq_true.mp lad1CC f hf) (List.all_eq_true.mp lad1CD f hf) h2) (List.all_eq_true.mpr fun f hf => all_fl (p := fun u => ladN (1 + 1) f u) (List.all_eq_true.mp lad1DA f hf) (List.all_eq_true.mp lad1DB f hf) (List.all_eq_true.mp lad1DC f hf) (List.all_eq_true.mp lad1DD f hf) h2) h1
      · exact all_fl (p := fun f => ladN (1 + 2) f u) (List.all_eq_true.mpr fun f hf => all_fl (p := fun u => ladN (1 + 2) f u) (List.all_eq_true.mp lad2AA f hf) (List.all_eq_true.mp lad2AB f hf) (List.all_eq_true.mp lad2AC f hf) (List.all_eq_true.mp lad2AD f hf) h2) (List.all_eq_true.mpr fun f hf => all_fl (p := fun u => ladN (1 + 2) f u) (List.all_eq_true.mp lad2BA f hf) (List.all_eq_true.mp lad2BB f hf) (List.all_eq_true.mp lad2BC f hf) (List.all_eq_true.mp lad2BD f hf) h2) (List.all_eq_true.mpr fun f hf => all_fl (p := fun u => ladN (1 + 2) f u) (List.all_eq_true.mp lad2CA f hf) (List.all_eq_true.mp lad2CB f hf) (List.all_eq_true.mp lad2CC f hf) (List.all_eq_true.mp lad2CD f hf) h2) (List.all_eq_true.mpr fun f hf => all_fl (p := fun u => ladN (1 + 2) f u) (List.all_eq_true.mp lad2DA f hf) (List.all_eq_true.mp lad2DB f hf) (List.all_eq_true.mp lad2DC f hf) (List.all_eq_true.mp lad2DD f hf) h2) h1
      · exact all_fl (p := fun f => ladN (1 + 3) f u) (List.all_eq_true.mpr fun f hf => all_fl (p := fun u => ladN (1 + 3) f u) (List.all_eq_true.mp lad3AA f hf) (List.all_eq_true.mp lad3AB f hf) (List.all_eq_true.mp lad3AC f hf) (List.all_eq_true.mp lad3AD f hf) h2) (List.all_eq_true.mpr fun f hf => all_fl (p := fun u => ladN (1 + 3) f u) (List.all_eq_true.mp lad3BA f hf) (List.all_eq_true.mp lad3BB f hf) (List.all_eq_true.mp lad3BC f hf) (List.all_eq_true.mp lad3BD f hf) h2) (List.all_eq_true.mpr fun f hf => all_fl (p := fun u => ladN (1 + 3) f u) (List.all_eq_true.mp lad3CA f hf) (List.all_eq_true.mp lad3CB f hf) (List.all_eq_true.mp lad3CC f hf) (List.all_eq_true.mp lad3CD f hf) h2) (List.all_eq_true.mpr fun f hf => all_fl (p := fun u => ladN (1 + 3) f u) (List.all_eq_true.mp lad3DA f hf) (List.all_eq_true.mp lad3DB f hf) (List.all_eq_true.mp lad3DC f hf) (List.all_eq_true.mp lad3DD f hf) h2) h1
      · exact all_fl (p := fun f => ladN (1 + 4) f u) (List.all_eq_true.mpr fun f hf => all_fl (p := fun u => ladN (1 + 4) f u) (List.all_eq_true.mp lad4AA f hf) (List.all_eq_true.mp lad4AB f hf) (List.all_eq_true.mp lad4AC f hf) (List.all_eq_true.mp lad4AD f hf) h2) (List.all_eq_true.mpr fun f hf => all_fl (p := fun u => ladN (1 + 4) f u) (List.all_eq_true.mp lad4BA f hf) (List.all_eq_true.mp lad4BB f hf) (List.all_eq_true.mp lad4BC f hf) (List.all_eq_true.mp lad4BD f hf) h2) (List.all_eq_true.mpr fun f hf => all_fl (p := fun u => ladN (1 + 4) f u) (List.all_eq_true.mp lad4CA f hf) (List.all_eq_true.mp lad4CB f hf) (List.all_eq_true.mp lad4CC f hf) (List.all_eq_true.mp lad4CD f hf) h2) (List.all_eq_true.mpr fun f hf => all_fl (p := fun u => ladN (1 + 4) f u) (List.all_eq_true.mp lad4DA f hf) (List.all_eq_true.mp lad4DB f hf) (List.all_eq_true.mp lad4DC f hf) (List.all_eq_true.mp lad4DD f hf) h2) h1
      · exact all_fl (p := fun f => ladN (1 + 5) f u) (List.all_eq_true.mpr fun f hf => all_fl (p := fun u => ladN (1 + 5) f u) (List.all_eq_true.mp lad5AA f hf) (List.all_eq_true.mp lad5AB f hf) (List.all_eq_true.mp lad5AC f hf) (List.all_eq_true.mp lad5AD f hf) h2) (List.all_eq_true.mpr fun f hf => all_fl (p := fun u => ladN (1 + 5) f u) (List.all_eq_true.mp lad5BA f hf) (List.all_eq_true.mp lad5BB f hf) (List.all_eq_true.mp lad5BC f hf) (List.all_eq_true.mp lad5BD f hf) h2) (List.all_eq_true.mpr fun f hf => all_fl (p := fun u => ladN (1 + 5) f u) (List.all_eq_true.mp lad5CA f hf) (List.all_eq_true.mp lad5CB f hf) (List.all_eq_true.mp lad5CC f hf) (List.all_eq_true.mp lad5CD f hf) h2) (List.all_eq_true.mpr fun f hf => all_fl (p := fun u => ladN (1 + 5) f u) (List.all_eq_true.mp lad5DA f hf) (List.all_eq_true.mp lad5DB f hf) (List.all_eq_true.mp lad5DC f hf) (List.all_eq_true.mp lad5DD f hf) h2) h1
    exact ladN_of h
  spr := fun i hi j hj st hst s hs => by
    have h1 := flm i hi j hj
    refine ⟨jt st, pt st (st - s), listIs_ok (List.all_eq_true.mp jt_ok st (jt_mem st hst)), spare_of ?_ (List.all_eq_true.mp pt_ok (st, st - s) (prs_mem st hst s hs))⟩
    generalize lowN (1 + i) (5 + j) = f at h1
    have hc : s = 0 ∨ s = 1 ∨ s = 2 ∨ s = 3 ∨ s = 4 := by omega
    rcases hc with rfl | rfl | rfl | rfl | rfl
    · exact all_fl (p := fun f => spareR 0 f st (pt st (st - 0))) (List.all_eq_true.mp spr0A st (List.mem_range.mpr hst)) (List.all_eq_true.mp spr0B st (List.mem_range.mpr hst)) (List.all_eq_true.mp spr0C st (List.mem_range.mpr hst)) (List.all_eq_true.mp spr0D st (List.mem_range.mpr hst)) h1
    · exact all_fl (p := fun f => spareR 1 f st (pt st (st - 1))) (List.all_eq_true.mp spr1A st (List.mem_range.mpr hst)) (List.all_eq_true.mp spr1B st (List.mem_range.mpr hst)) (List.all_eq_true.mp spr1C st (List.mem_range.mpr hst)) (List.all_eq_true.mp spr1D st (List.mem_range.mpr hst)) h1
    · exact all_fl (p := fun f => spareR 2 f st (pt st (st - 2))) (List.all_eq_true.mp spr2A st (List.mem_range.mpr hst)) (List.all_eq_true.mp spr2B st (List.mem_range.mpr hst)) (List.all_eq_true.mp spr2C st (List.mem_range.mpr hst)) (List.all_eq_true.mp spr2D st (List.mem_range.mpr hst)) h1
    · exact all_fl (p := fun f => spareR 3 f st (pt st (st - 3))) (List.all_eq_true.mp spr3A st (List.mem_range.mpr hst)) (List.all_eq_true.mp spr3B st (List.mem_range.mpr hst)) (List.all_eq_true.mp spr3C st (List.mem_range.mpr hst)) (List.all_eq_true.mp spr3D st (List.mem_range.mpr hst)) h1
    · exact all_fl (p := fun f => spareR 4 f st (pt st (st - 4))) (List.all_eq_true.mp spr4A st (List.mem_range.mpr hst)) (List.all_eq_true.mp spr4B st (List.mem_range.mpr hst)) (List.all_eq_true.mp spr4C st (List.mem_range.mpr hst)) (List.all_eq_true.mp spr4D st (List.mem_range.mpr hst)) h1
  ned := fun i hi j hj st hst c hc => by
    have h1 := flm i hi j hj
    have hr := List.mem_range.mpr hst
    have h := all_fl (p := fun f => nedN f st) (List.all_eq_true.mp ned_a st hr) (List.all_eq_true.mp ned_b st hr) (List.all_eq_true.mp ned_c st hr) (List.all_eq_true.mp ned_d st hr) h1
    unfold nedN at h
    simp only [Bool.and_eq_true] at h
    obtain ⟨h2, h3⟩ := h
    split at h3
    case h_2 => cases h3
    rename_i zs ez
    have h4 := List.all_eq_true.mp h3 c (List.mem_range.mpr hc)
    simp only [Bool.and_eq_true] at h4
    exact ⟨zs, h2, ez, h4.1, h4.2⟩
/-! the known ones -/
theorem k1 : g_ladder_shares [.tup [.int 3, .int 3, .tup [.int 1, .int 4], .tup [.int 1, .int 2]]] = .ok (.tup [.tup [.int 1, .int 27], .tup [.int 2, .int 9], .tup [.int 4, .int 9], .tup [.int 8, .int 27]]) :=
  ladder_shares_ok (n := 3) (m := 3) (f := (1, 4)) (u := (1, 2)) (S := [(1, 27), (2, 9), (4, 9), (8, 27)]) (by decide +kernel) (by decide +kernel)
theorem k2 : g_mean_up [.tup [.int 3, .int 3, .tup [.int 1, .int 4], .tup [.int 1, .int 2]]] = .ok (.tup [.int 2, .int 1]) :=
  mean_up_ok (n := 3) (m := 3) (f := (1, 4)) (u := (1, 2)) (z := (2, 1)) (S := [(1, 27), (2, 9), (4, 9), (8, 27)]) (by decide +kernel) (by decide +kernel) (by decide +kernel)
theorem k3 : g_last_chance [.tup [.int 2, .tup [.int 1, .int 3], .tup [.int 0, .int 1]], .int 5] = .ok (.tup [.int 64, .int 81]) := by
  have h : (chancesN 2 (1, 3) (0, 1) 5).bind totN = some (64, 81) := by decide +kernel
  cases e : chancesN 2 (1, 3) (0, 1) 5 with
  | none => rw [e] at h; cases h
  | some L =>
    rw [e] at h
    exact last_chance_ok (s := 2) (steps := 5) (f := (1, 3)) (z := (64, 81)) (by decide +kernel) (by decide) e h
theorem k4 : g_good_chances [.tup [.int 2, .tup [.int 1, .int 3], .tup [.int 0, .int 1]], .int 3] = .ok (.tup [.tup [.int 2, .int 9], .tup [.int 4, .int 9], .tup [.int 8, .int 27]]) :=
  good_chances_ok (s := 2) (steps := 3) (f := (1, 3)) (L := [(2, 9), (4, 9), (8, 27)]) (by decide +kernel) (by decide) (by decide +kernel)
abbrev told4 : D := .lst [.tup [.tup [.int 1, .int 27], .tup [.int 2, .int 9], .tup [.int 4, .int 9], .tup [.int 8, .int 27]], .tup [.int 2, .int 1], .tup [.int 64, .int 81], .tup [.tup [.int 2, .int 9], .tup [.int 4, .int 9], .tup [.int 8, .int 27]]]
theorem k5 : dNe told4 told4 = .ok (.bl false) := by simp [dNe, D.okq, D.okqL, dEqv, D.pyd, D.pydL, PyData.eqv, PyData.eqvAll]
def chk2 (x : Nat × Q × Q) : Bool := ladN x.1 x.2.1 x.2.2
def items2 : List (Nat × Q × Q) := [(1, (1, 1), (1, 3)), (8, (1, 10), (9, 10)), (4, (2, 3), (1, 7)), (2, (1, 1), (1, 1))]
theorem l2 : foldO (fun (a : Unit) x => if chk2 x && Nat.ble 1 x.1 then some a else none) items2 () = some () := by decide +kernel
def items3 : List (Nat × Q × Nat) := [(0, (1, 3), 4), (6, (1, 1), 6), (6, (1, 1), 7), (3, (9, 10), 12), (2, (1, 7), 0), (1, (2, 5), 1)]
def chk3 (x : Nat × Q × Nat) : Bool := spareR x.1 x.2.1 x.2.2 (pt x.2.2 (x.2.2 - x.1)) && ([(0, 0), (1, 0), (1, 1), (2, 0), (2, 1), (2, 2), (3, 0), (3, 1), (3, 2), (3, 3), (4, 0), (4, 1), (4, 2), (4, 3), (4, 4), (5, 1), (5, 2), (5, 3), (5, 4), (5, 5), (6, 2), (6, 3), (6, 4), (6, 5), (6, 6), (7, 3), (7, 4), (7, 5), (7, 6), (7, 7), (8, 4), (8, 5), (8, 6), (8, 7), (8, 8), (6, 0), (7, 1), (12, 9)] : List (Nat × Nat)).contains (x.2.2, x.2.2 - x.1) && [0, 1, 2, 3, 4, 5, 6, 7, 8, 12].contains x.2.2 && needOk x.2.1 x.2.2 && (match tabN x.2.1 x.2.2 with
  | some zs => chk7 zs (1, 2)
  | none => false)
theorem l3 : foldO (fun (a : Unit) x => if chk3 x then some a else none) items3 () = some () := by decide +kernel
theorem w12 : smok (1, 2) = true := by decide +kernel
theorem law_true : ∀ ns : List Int, ns.length ≤ 63 → g_law [.scr ns] = .ok (.bl true) := by
  intro ns hl
  obtain ⟨a, b, c0⟩ := cup_ok ns hl
  obtain ⟨a', b', ⟨j1, j2, j3, j4, j5, j6, j7⟩, e1⟩ := loop1 tables ns a b
  obtain ⟨⟨x1, x2, x3⟩, e2⟩ := sFor_fold (src := S2_law) (tgt := T2_law) (body := B2_law) (fun x : Nat × Q × Q => D.tup [.int (x.1 : Int), qd x.2.1, qd x.2.2]) _ (fun (_ : Unit) (b : Option D × Option D × Option D) => S0 ns [.int a', .int b'] (j1, b.1, b.2.1, b.2.2, j5, some told4, j7))
    (ε := S0 ns [.int a', .int b'] (j1, j2, j3, j4, j5, some told4, j7)) (ε1 := S0 ns [.int a', .int b'] (j1, j2, j3, j4, j5, some told4, j7)) (b := (j2, j3, j4)) l2 (by simp; rfl) rfl rfl
    (fun _ b x a' ha => by
      split at ha
      case isFalse => cases ha
      rename_i h
      simp only [Bool.and_eq_true, Nat.ble_eq] at h
      obtain ⟨h, hx⟩ := h
      obtain ⟨n, f, u⟩ := x
      obtain ⟨t1, t2, S, z, t3, t4, t5⟩ := ladN_of (show ladN n f u = true from h)
      have g1 := ladder_right_ok t1
      have g2 := few_right_ok t3 t4 (t5 0 hx) t2
      have e0 : ((1 + 0 : Nat) : Int) = 1 := rfl
      rw [e0] at g2
      exact ⟨_, by simp [S0]; rfl, (some (.int (n : Int)), some (qd f), some (qd u)), by simp [S0, g1, g2]⟩)
  obtain ⟨⟨y1, y2, y3⟩, e3⟩ := sFor_fold (src := S3_law) (tgt := T3_law) (body := B3_law) (fun x : Nat × Q × Nat => D.tup [.int (x.1 : Int), qd x.2.1, .int (x.2.2 : Int)]) _ (fun (_ : Unit) (b : Option D × Option D × Option D) => S0 ns [.int a', .int b'] (j1, x1, b.2.1, x3, b.2.2, some told4, b.1))
    (ε := S0 ns [.int a', .int b'] (j1, x1, x2, x3, j5, some told4, j7)) (ε1 := S0 ns [.int a', .int b'] (j1, x1, x2, x3, j5, some told4, j7)) (b := (j7, x2, j5)) l3 (by simp; rfl) rfl rfl
    (fun _ b x a' ha => by
      split at ha
      case isFalse => cases ha
      rename_i h
      obtain ⟨s, f, st⟩ := x
      unfold chk3 at h
      simp only [Bool.and_eq_true] at h
      obtain ⟨⟨⟨⟨h1, h2⟩, h3⟩, h4⟩, h5⟩ := h
      split at h5
      case h_2 => cases h5
      rename_i zs ez
      have g1 := spares_right_ok (listIs_ok (List.all_eq_true.mp jt_ok st (List.contains_iff_mem.mp h3))) (spare_of h1 (List.all_eq_true.mp pt_ok (st, st - s) (List.contains_iff_mem.mp h2)))
      have g2 := needed_right_ok h4 ez w12 h5
      have q12 : qd (1, 2) = .tup [.int 1, .int 2] := rfl
      rw [q12] at g2
      exact ⟨_, by simp [S0]; rfl, (some (.int (s : Int)), some (qd f), some (.int (st : Int))), by simp [S0, g1, g2]⟩)
  show outRes (sSeq _ _ (startE 9 [.scr ns])) = _
  refine out_seq (ε1 := S0 ns [.int a, .int b] (none, none, none, none, none, none, none)) (by simp [S0, eCallN, c0]) (out_seq e1 (out_seq (ε1 := S0 ns [.int a', .int b'] (j1, j2, j3, j4, j5, some (.lst [.tup [.tup [.int 1, .int 27], .tup [.int 2, .int 9], .tup [.int 4, .int 9], .tup [.int 8, .int 27]], .tup [.int 2, .int 1]]), j7)) (by simp [S0, k1, k2]) (out_seq (ε1 := S0 ns [.int a', .int b'] (j1, j2, j3, j4, j5, some told4, j7)) (by simp [S0, k3, k4, dCat]) (out_seq (ε1 := S0 ns [.int a', .int b'] (j1, j2, j3, j4, j5, some told4, j7)) (by simp [S0, k5]) (out_seq e2 (out_seq e3 (out_ret (by simp; rfl))))))))
end W92
open PySem PySem.W PyProof.Rows
set_option maxHeartbeats 0 in
theorem PySem.Challenge.cw_roadsfail_k92_whole_ladders_and_spares_a_holds : PySem.Challenge.rw_roadsfail_k92_whole_ladders_and_spares_a.Holds := by
  w_on; o_law; k_head; (case hw => w_witness2)
  k_fill
  refine L2.walk_of (l := PySem.Challenge.rw_roadsfail_k92_whole_ladders_and_spares_a) (n := 63) (k := 10) (x := "script") (CX := fun w => L2.CX (PySem.Challenge.rw_roadsfail_k92_whole_ladders_and_spares_a).prog w) (sp := fun w => PL.spL _) rfl (by decide) rfl ⟨rfl, by decide, by decide⟩ (fun w h Y => PySem.W.kIn_of Y) ?F (fun _ _ a ns hl hO hS => ⟨a, ns, rfl, hS, hl, hO, fun _ => rfl⟩) (fun _ _ _ _ _ h => ?X)
  case X => obtain ⟨_, _, _, _, _, _, _, _, _, _, _, _, z⟩ := h; exact z
  case F =>
    intro w mg fa h KX G hmg
    refine' W92.all_mk W92.law_true KX G hmg ?a0 ?l0 ?c0 ?k0 ?a1 ?l1 ?c1 ?k1 ?a2 ?l2 ?c2 ?k2 ?a3 ?l3 ?c3 ?k3 ?a4 ?l4 ?c4 ?k4 ?a5 ?l5 ?c5 ?k5 ?a6 ?l6 ?c6 ?k6 ?a7 ?l7 ?c7 ?k7 ?a8 ?l8 ?c8 ?k8 ?a9 ?l9 ?c9 ?k9 ?a10 ?l10 ?c10 ?k10 ?a11 ?l11 ?c11 ?k11 ?a12 ?l12 ?c12 ?k12 ?a13 ?l13 ?c13 ?k13 ?a14 ?l14 ?c14 ?k14 ?a15 ?l15 ?c15 ?k15 ?a16 ?l16 ?c16 ?k16 ?a17 ?l17 ?c17 ?k17 ?a18 ?l18 ?c18 ?k18 ?a19 ?l19 ?c19 ?k19 ?a20 ?l20 ?c20 ?k20 ?a21 ?l21 ?c21 ?k21 ?a22 ?l22 ?c22 ?k22 ?a23 ?l23 ?c23 ?k23 ?a24 ?l24 ?c24 ?k24 ?a25 ?l25 ?c25 ?k25 ?a26 ?l26 ?c26 ?k26 ?a27 ?l27 ?c27 ?k27 ?a28 ?l28 ?c28 ?k28 ?a29 ?l29 ?c29 ?k29 ?a30 ?l30 ?c30 ?k30 ?a31 ?l31 ?c31 ?k31 ?a32 ?l32 ?c32 ?k32 ?a33 ?l33 ?c33 ?k33 ?a34 ?l34 ?c34 ?k34 ?a35 ?l35 ?c35 ?k35 ?a36 ?l36 ?c36 ?k36 ?a37 ?l37 ?c37 ?k37 ?a38 ?l38 ?c38 ?k38 ?a39 ?l39 ?c39 ?k39 ?a40 ?l40 ?c40 ?k40 ?a41 ?l41 ?c41 ?k41 ?a42 ?l42 ?c42 ?k42 ?a43 ?l43 ?c43 ?k43 ?a44 ?l44 ?c44 ?k44 ?a45 ?l45 ?c45 ?k45 ?a46 ?l46 ?c46 ?k46 ?a47 ?l47 ?c47 ?k47 ?a48 ?l48 ?c48 ?k48 ?a49 ?l49 ?c49 ?k49 ?a50 ?l50 ?c50 ?k50 ?a51 ?l51 ?c51 ?k51 ?a52 ?l52 ?c52 ?k52 ?a53 ?l53 ?c53 ?k53 ?a54 ?l54 ?c54 ?k54 ?a55 ?l55 ?c55 ?k55 ?a56 ?l56 ?c56 ?k56 ?a57 ?l57 ?c57 ?k57 ?a58 ?l58 ?c58 ?k58 ?a59 ?l59 ?c59 ?k59 ?a60 ?l60 ?c60 ?k60 ?a61 ?l61 ?c61 ?k61 ?a62 ?l62 ?c62 ?k62 ?a63 ?l63 ?c63 ?k63 ?a64 ?l64 ?c64 ?k64 ?a65 ?l65 ?c65 ?k65 ?z_isinstance ?z_int ?z_bool ?z_tuple ?z_len ?z_all ?z_any ?z_range ?z_enumerate ?z_zip ?z_max ?z_list ?z_min ?z_abs ?m_gcd ?m_comb ?c_GREAT ?c_SMALL ?c_MOST_waitingspares ?c_STEPS ?c_BOTTOM ?c_PARTS_goodcounts ?c_MOST_likeparts ?c_RATE ?c_PARTS_mendladders ?ea0 ?eb0 ?ec0 ?ed0 ?ee0 ?ea1 ?eb1 ?ec1 ?ed1 ?ee1 ?ea2 ?eb2 ?ec2 ?ed2 ?ee2 ?ea3 ?eb3 ?ec3 ?ed3 ?ee3 ?ea4 ?eb4 ?ec4 ?ed4 ?ee4 ?aL ?lL ?cL ?kL
    (case a0 => k_is); (case l0 => k_is); (case c0 => k_is); (case k0 => k_is); (case a1 => k_is); (case l1 => k_is); (case c1 => k_is); (case k1 => k_is)
    (case a2 => k_is); (case l2 => k_is); (case c2 => k_is); (case k2 => k_is); (case a3 => k_is); (case l3 => k_is); (case c3 => k_is); (case k3 => k_is)
    (case a4 => k_is); (case l4 => k_is); (case c4 => k_is); (case k4 => k_is); (case a5 => k_is); (case l5 => k_is); (case c5 => k_is); (case k5 => k_is)
    (case a6 => k_is); (case l6 => k_is); (case c6 => k_is); (case k6 => k_is); (case a7 => k_is); (case l7 => k_is); (case c7 => k_is); (case k7 => k_is)
    (case a8 => k_is); (case l8 => k_is); (case c8 => k_is); (case k8 => k_is); (case a9 => k_is); (case l9 => k_is); (case c9 => k_is); (case k9 => k_is)
    (case a10 => k_is); (case l10 => k_is); (case c10 => k_is); (case k10 => k_is); (case a11 => k_is); (case l11 => k_is); (case c11 => k_is); (case k11 => k_is)
    (case a12 => k_is); (case l12 => k_is); (case c12 => k_is); (case k12 => k_is); (case a13 => k_is); (case l13 => k_is); (case c13 => k_is); (case k13 => k_is)
    (case a14 => k_is); (case l14 => k_is); (case c14 => k_is); (case k14 => k_is); (case a15 => k_is); (case l15 => k_is); (case c15 => k_is); (case k15 => k_is)
    (case a16 => k_is); (case l16 => k_is); (case c16 => k_is); (case k16 => k_is); (case a17 => k_is); (case l17 => k_is); (case c17 => k_is); (case k17 => k_is)
    (case a18 => k_is); (case l18 => k_is); (case c18 => k_is); (case k18 => k_is); (case a19 => k_is); (case l19 => k_is); (case c19 => k_is); (case k19 => k_is)
    (case a20 => k_is); (case l20 => k_is); (case c20 => k_is); (case k20 => k_is); (case a21 => k_is); (case l21 => k_is); (case c21 => k_is); (case k21 => k_is)
    (case a22 => k_is); (case l22 => k_is); (case c22 => k_is); (case k22 => k_is); (case a23 => k_is); (case l23 => k_is); (case c23 => k_is); (case k23 => k_is)
    (case a24 => k_is); (case l24 => k_is); (case c24 => k_is); (case k24 => k_is); (case a25 => k_is); (case l25 => k_is); (case c25 => k_is); (case k25 => k_is)
    (case a26 => k_is); (case l26 => k_is); (case c26 => k_is); (case k26 => k_is); (case a27 => k_is); (case l27 => k_is); (case c27 => k_is); (case k27 => k_is)
    (case a28 => k_is); (case l28 => k_is); (case c28 => k_is); (case k28 => k_is); (case a29 => k_is); (case l29 => k_is); (case c29 => k_is); (case k29 => k_is)
    (case a30 => k_is); (case l30 => k_is); (case c30 => k_is); (case k30 => k_is); (case a31 => k_is); (case l31 => k_is); (case c31 => k_is); (case k31 => k_is)
    (case a32 => k_is); (case l32 => k_is); (case c32 => k_is); (case k32 => k_is); (case a33 => k_is); (case l33 => k_is); (case c33 => k_is); (case k33 => k_is)
    (case a34 => k_is); (case l34 => k_is); (case c34 => k_is); (case k34 => k_is); (case a35 => k_is); (case l35 => k_is); (case c35 => k_is); (case k35 => k_is)
    (case a36 => k_is); (case l36 => k_is); (case c36 => k_is); (case k36 => k_is); (case a37 => k_is); (case l37 => k_is); (case c37 => k_is); (case k37 => k_is)
    (case a38 => k_is); (case l38 => k_is); (case c38 => k_is); (case k38 => k_is); (case a39 => k_is); (case l39 => k_is); (case c39 => k_is); (case k39 => k_is)
    (case a40 => k_is); (case l40 => k_is); (case c40 => k_is); (case k40 => k_is); (case a41 => k_is); (case l41 => k_is); (case c41 => k_is); (case k41 => k_is)
    (case a42 => k_is); (case l42 => k_is); (case c42 => k_is); (case k42 => k_is); (case a43 => k_is); (case l43 => k_is); (case c43 => k_is); (case k43 => k_is)
    (case a44 => k_is); (case l44 => k_is); (case c44 => k_is); (case k44 => k_is); (case a45 => k_is); (case l45 => k_is); (case c45 => k_is); (case k45 => k_is)
    (case a46 => k_is); (case l46 => k_is); (case c46 => k_is); (case k46 => k_is); (case a47 => k_is); (case l47 => k_is); (case c47 => k_is); (case k47 => k_is)
    (case a48 => k_is); (case l48 => k_is); (case c48 => k_is); (case k48 => k_is); (case a49 => k_is); (case l49 => k_is); (case c49 => k_is); (case k49 => k_is)
    (case a50 => k_is); (case l50 => k_is); (case c50 => k_is); (case k50 => k_is); (case a51 => k_is); (case l51 => k_is); (case c51 => k_is); (case k51 => k_is)
    (case a52 => k_is); (case l52 => k_is); (case c52 => k_is); (case k52 => k_is); (case a53 => k_is); (case l53 => k_is); (case c53 => k_is); (case k53 => k_is)
    (case a54 => k_is); (case l54 => k_is); (case c54 => k_is); (case k54 => k_is); (case a55 => k_is); (case l55 => k_is); (case c55 => k_is); (case k55 => k_is)
    (case a56 => k_is); (case l56 => k_is); (case c56 => k_is); (case k56 => k_is); (case a57 => k_is); (case l57 => k_is); (case c57 => k_is); (case k57 => k_is)
    (case a58 => k_is); (case l58 => k_is); (case c58 => k_is); (case k58 => k_is); (case a59 => k_is); (case l59 => k_is); (case c59 => k_is); (case k59 => k_is)
    (case a60 => k_is); (case l60 => k_is); (case c60 => k_is); (case k60 => k_is); (case a61 => k_is); (case l61 => k_is); (case c61 => k_is); (case k61 => k_is)
    (case a62 => k_is); (case l62 => k_is); (case c62 => k_is); (case k62 => k_is); (case a63 => k_is); (case l63 => k_is); (case c63 => k_is); (case k63 => k_is)
    (case a64 => k_is); (case l64 => k_is); (case c64 => k_is); (case k64 => k_is); (case a65 => k_is); (case l65 => k_is); (case c65 => k_is); (case k65 => k_is)
    (case z_isinstance => k_is); (case z_int => k_is); (case z_bool => k_is); (case z_tuple => k_is); (case z_len => k_is); (case z_all => k_is); (case z_any => k_is); (case z_range => k_is)
    (case z_enumerate => k_is); (case z_zip => k_is); (case z_max => k_is); (case z_list => k_is); (case z_min => k_is); (case z_abs => k_is); (case m_gcd => k_is); (case m_comb => k_is)
    (case c_GREAT => k_is); (case c_SMALL => k_is); (case c_MOST_waitingspares => k_is); (case c_STEPS => k_is); (case c_BOTTOM => k_is); (case c_PARTS_goodcounts => k_is); (case c_MOST_likeparts => k_is); (case c_RATE => k_is)
    (case c_PARTS_mendladders => k_is); (case ea0 => k_is); (case eb0 => k_exc); (case ec0 => k_is); (case ed0 => k_is); (case ee0 => k_is); (case ea1 => k_is); (case eb1 => k_exc)
    (case ec1 => k_is); (case ed1 => k_is); (case ee1 => k_is); (case ea2 => k_is); (case eb2 => k_exc); (case ec2 => k_is); (case ed2 => k_is); (case ee2 => k_is)
    (case ea3 => k_is); (case eb3 => k_exc); (case ec3 => k_is); (case ed3 => k_is); (case ee3 => k_is); (case ea4 => k_is); (case eb4 => k_exc); (case ec4 => k_is)
    (case ed4 => k_is); (case ee4 => k_is); (case aL => k_is); (case lL => k_is); (case cL => k_is); (case kL => k_is)
