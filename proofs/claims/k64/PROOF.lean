import PyProof.Rows.All
import Wide.All
import OpenK.AllK
import Wide.FinOn
import PySem.Challenge.RW_roadsfail_k64_whole_new_parts
import HandS.ForMost
import HandS.ForExc
import HandS.Wide
import HandS.Gcd
import HandS.Style
import HandS.Zip
import HandS.IsInst
import HandS.Flow
import HandS.Lambda
import HandS.ExcIs
import HandS.ExcSuper
import HandS.ExcCtx
import HandS.Hot
import HandS.HotCalls
import HandS.EndTab
import HandS.TupMul
import HandS.Conv
import HandS.TupAny
import KE.KMathGC
import KE.GoesEnum
import HandS.CallLocal
set_option Elab.async false
set_option linter.all false
set_option maxRecDepth 100000
set_option maxHeartbeats 4000000
/-! PL, part a: data, slots, the relation of a frame's pure state to its heap, steps. -/
namespace PL
open PySem PySem.Spec PyProof.Rows L2

inductive D where
  | non | bl (b : Bool) | int (i : Int) | str (x : Str) | tup (ds : List D) | lst (ds : List D) | fn (k : Nat) | scr (ns : List Int)

inductive Slot where
  | em | pu (d : D) | ow (ds : List D)

abbrev St := L2.St
abbrev Ev := List Slot

inductive Res (α : Type) where
  | ok (a : α) | err (c : Nat) | stuck

namespace Res
variable {α β γ : Type}
def bind (r : Res α) (f : α → Res β) : Res β := match r with
  | .ok a => f a
  | .err c => .err c
  | .stuck => .stuck
@[simp] theorem bind_ok (a : α) (f : α → Res β) : (Res.ok a).bind f = f a := rfl
@[simp] theorem bind_err (c : Nat) (f : α → Res β) : (Res.err c : Res α).bind f = .err c := rfl
@[simp] theorem bind_stuck (f : α → Res β) : (Res.stuck : Res α).bind f = .stuck := rfl
end Res

/-- what is the same for a whole law -/
structure Fx where
  K : PySem.W.Frag
  fa : Nat → Addr
  ca : Nat → Addr
  T : List (Addr × Str)
/-- .. and a frame's own mutable argument -/
structure Fr where
  F : Fx
  cp : Option Addr

mutual
def Rp (F : Fx) (G : Hp) : D → V → Prop
  | .non, v => v = .non
  | .bl b, v => v = .bl b
  | .int i, v => v = .int i
  | .str x, v => v = .str x
  | .fn k, v => v = .ref (F.fa k)
  | .scr ns, v => ∃ a, v = .ref a ∧ SqL F.K G a (ns.map V.int)
  | .tup ds, v => ∃ a vs, v = .ref a ∧ SqT F.K G a vs ∧ RpL F G ds vs
  | .lst ds, v => ∃ a vs, v = .ref a ∧ G a = some (.lst vs) ∧ RpL F G ds vs
def RpL (F : Fx) (G : Hp) : List D → List V → Prop
  | [], vs => vs = []
  | d :: ds, vs => ∃ v r, vs = v :: r ∧ Rp F G d v ∧ RpL F G ds r
end

theorem sqT_mono {K : PySem.W.Frag} {G G' : Hp} (h : ∀ q o, G q = some o → G' q = some o) {a : Addr} {xs : List V} (s : SqT K G a xs) : SqT K G' a xs := by
  rcases s with (s | ⟨o, s⟩) | s
  · exact .inl (.inl (h _ _ s))
  · exact .inl (.inr ⟨o, h _ _ s⟩)
  · exact .inr s

theorem sqL_mono {K : PySem.W.Frag} {G G' : Hp} (h : ∀ q o, G q = some o → G' q = some o) {a : Addr} {xs : List V} (s : SqL K G a xs) : SqL K G' a xs := by
  rcases s with (s | ⟨o, s⟩) | s
  · exact .inl (.inl (h _ _ s))
  · exact .inl (.inr ⟨o, h _ _ s⟩)
  · exact .inr s

mutual
theorem Rp.mono {F : Fx} {G G' : Hp} (h : ∀ q o, G q = some o → G' q = some o) : ∀ (d : D) (v : V), Rp F G d v → Rp F G' d v
  | .non, _, r => r
  | .bl _, _, r => r
  | .int _, _, r => r
  | .str _, _, r => r
  | .fn _, _, r => r
  | .scr ns, _, r => by
    simp only [Rp] at r ⊢
    obtain ⟨a, e, s⟩ := r
    exact ⟨a, e, sqL_mono h s⟩
  | .tup ds, _, r => by
    simp only [Rp] at r ⊢
    obtain ⟨a, vs, e, s, l⟩ := r
    exact ⟨a, vs, e, sqT_mono h s, RpL.mono h ds vs l⟩
  | .lst ds, _, r => by
    simp only [Rp] at r ⊢
    obtain ⟨a, vs, e, s, l⟩ := r
    exact ⟨a, vs, e, h _ _ s, RpL.mono h ds vs l⟩
theorem RpL.mono {F : Fx} {G G' : Hp} (h : ∀ q o, G q = some o → G' q = some o) : ∀ (ds : List D) (vs : List V), RpL F G ds vs → RpL F G' ds vs
  | [], _, r => r
  | d :: ds, _, r => by
    simp only [RpL] at r ⊢
    obtain ⟨v, vs, e, s, l⟩ := r
    exact ⟨v, vs, e, Rp.mono h d v s, RpL.mono h ds vs l⟩
end

theorem RpL.nil {F : Fx} {G : Hp} : RpL F G [] [] := by simp only [RpL]
theorem RpL.cons {F : Fx} {G : Hp} {d : D} {ds : List D} {v : V} {vs : List V} (a : Rp F G d v) (b : RpL F G ds vs) : RpL F G (d :: ds) (v :: vs) := by
  simp only [RpL]; exact ⟨v, vs, rfl, a, b⟩
theorem RpL.of_cons {F : Fx} {G : Hp} {d : D} {ds : List D} {vs : List V} (h : RpL F G (d :: ds) vs) : ∃ v r, vs = v :: r ∧ Rp F G d v ∧ RpL F G ds r := by
  simpa only [RpL] using h
theorem RpL.of_nil {F : Fx} {G : Hp} {vs : List V} (h : RpL F G [] vs) : vs = [] := by simpa only [RpL] using h
theorem RpL.length {F : Fx} {G : Hp} : ∀ {ds : List D} {vs : List V}, RpL F G ds vs → ds.length = vs.length
  | [], vs, h => by rw [h.of_nil]; rfl
  | d :: ds, vs, h => by
    obtain ⟨v, r, rfl, _, l⟩ := h.of_cons
    simp [l.length]
theorem RpL.append {F : Fx} {G : Hp} : ∀ {ds es : List D} {vs ws : List V}, RpL F G ds vs → RpL F G es ws → RpL F G (ds ++ es) (vs ++ ws)
  | [], _, vs, _, h, k => by rw [h.of_nil]; exact k
  | d :: ds, _, vs, _, h, k => by
    obtain ⟨v, r, rfl, a, l⟩ := h.of_cons
    exact RpL.cons a (l.append k)
theorem RpL.get {F : Fx} {G : Hp} : ∀ {ds : List D} {vs : List V} {i : Nat} {d : D}, RpL F G ds vs → ds[i]? = some d → ∃ v, vs[i]? = some v ∧ Rp F G d v
  | [], _, _, _, _, e => by simp at e
  | d :: ds, vs, 0, x, h, e => by
    obtain ⟨v, r, rfl, a, l⟩ := h.of_cons
    simp at e; subst e
    exact ⟨v, rfl, a⟩
  | d :: ds, vs, i + 1, x, h, e => by
    obtain ⟨v, r, rfl, a, l⟩ := h.of_cons
    simp at e
    obtain ⟨w, e1, e2⟩ := l.get (i := i) e
    exact ⟨w, by simpa using e1, e2⟩
theorem RpL.getV {F : Fx} {G : Hp} {ds : List D} {vs : List V} {i : Nat} {v : V} (h : RpL F G ds vs) (e : vs[i]? = some v) : ∃ d, ds[i]? = some d ∧ Rp F G d v := by
  have hi : i < ds.length := by
    rw [h.length]
    exact (List.getElem?_eq_some_iff.mp e).1
  obtain ⟨w, e1, r⟩ := h.get (d := ds[i]) (List.getElem?_eq_getElem hi)
  rw [e] at e1
  cases e1
  exact ⟨_, List.getElem?_eq_getElem hi, r⟩
theorem RpL.take {F : Fx} {G : Hp} : ∀ (n : Nat) {ds : List D} {vs : List V}, RpL F G ds vs → RpL F G (ds.take n) (vs.take n)
  | 0, _, _, _ => RpL.nil
  | n + 1, [], vs, h => by rw [h.of_nil]; exact RpL.nil
  | n + 1, d :: ds, vs, h => by
    obtain ⟨v, r, rfl, a, l⟩ := h.of_cons
    exact RpL.cons a (l.take n)
theorem RpL.drop {F : Fx} {G : Hp} : ∀ (n : Nat) {ds : List D} {vs : List V}, RpL F G ds vs → RpL F G (ds.drop n) (vs.drop n)
  | 0, _, _, h => h
  | n + 1, [], vs, h => by rw [h.of_nil]; exact RpL.nil
  | n + 1, d :: ds, vs, h => by
    obtain ⟨v, r, rfl, a, l⟩ := h.of_cons
    exact l.drop n
theorem RpL.set {F : Fx} {G : Hp} {d : D} {v : V} (r : Rp F G d v) : ∀ (n : Nat) {ds : List D} {vs : List V}, RpL F G ds vs → RpL F G (ds.set n d) (vs.set n v)
  | _, [], vs, h => by rw [h.of_nil]; exact RpL.nil
  | 0, e :: ds, vs, h => by
    obtain ⟨w, q, rfl, a, l⟩ := h.of_cons
    exact RpL.cons r l
  | n + 1, e :: ds, vs, h => by
    obtain ⟨w, q, rfl, a, l⟩ := h.of_cons
    exact RpL.cons a (l.set r n)
theorem RpL.reverse {F : Fx} {G : Hp} : ∀ {ds : List D} {vs : List V}, RpL F G ds vs → RpL F G ds.reverse vs.reverse
  | [], vs, h => by rw [h.of_nil]; exact RpL.nil
  | d :: ds, vs, h => by
    obtain ⟨v, r, rfl, a, l⟩ := h.of_cons
    rw [List.reverse_cons, List.reverse_cons]
    exact l.reverse.append (RpL.cons a RpL.nil)
theorem RpL.rep {F : Fx} {G : Hp} {ds : List D} {vs : List V} (h : RpL F G ds vs) : ∀ k : Nat, RpL F G (List.replicate k ds).flatten (List.replicate k vs).flatten
  | 0 => RpL.nil
  | k + 1 => by
    rw [List.replicate_succ, List.replicate_succ, List.flatten_cons, List.flatten_cons]
    exact h.append (h.rep k)
theorem RpL.mapI {F : Fx} {G : Hp} : ∀ {ns : List Int} {vs : List V}, RpL F G (ns.map D.int) vs → vs = ns.map V.int
  | [], vs, h => h.of_nil
  | n :: ns, vs, h => by
    obtain ⟨v, r, rfl, a, l⟩ := h.of_cons
    simp only [Rp] at a
    rw [a, l.mapI]; rfl
theorem RpL.mapB {F : Fx} {G : Hp} : ∀ {ns : List Bool} {vs : List V}, RpL F G (ns.map D.bl) vs → vs = ns.map V.bl
  | [], vs, h => h.of_nil
  | n :: ns, vs, h => by
    obtain ⟨v, r, rfl, a, l⟩ := h.of_cons
    simp only [Rp] at a
    rw [a, l.mapB]; rfl
theorem RpL.mapS {F : Fx} {G : Hp} : ∀ {ns : List Str} {vs : List V}, RpL F G (ns.map D.str) vs → vs = ns.map V.str
  | [], vs, h => h.of_nil
  | n :: ns, vs, h => by
    obtain ⟨v, r, rfl, a, l⟩ := h.of_cons
    simp only [Rp] at a
    rw [a, l.mapS]; rfl

/-! ### the state of a frame -/
def Own (σ : St) (ε : Ev) (q : Addr) : Prop := ∃ (i : Nat) (ds : List D), ε[i]? = some (.ow ds) ∧ σ[i]? = some (some (.ref q))

def SlotOk (F : Fx) (G H : Hp) : Slot → Option V → Prop
  | .em, _ => True
  | .pu d, o => ∃ v, o = some v ∧ Rp F G d v
  | .ow ds, o => ∃ p vs, o = some (.ref p) ∧ G p = none ∧ H p = some (.lst vs) ∧ RpL F G ds vs

structure SR (M : Fr) (G H : Hp) (σ : St) (ε : Ev) : Prop where
  sub : ∀ q o, G q = some o → H q = some o
  ntb : ∀ q ps, G q ≠ some (.tbl ps)
  tabs : LamX.Tabs M.F.T H
  len : ε.length = σ.length
  slots : ∀ (i : Nat) (s : Slot) (o : Option V), ε[i]? = some s → σ[i]? = some o → SlotOk M.F G H s o
  inj : ∀ (i j : Nat) (ds es : List D) (q : Addr), ε[i]? = some (.ow ds) → ε[j]? = some (.ow es) → σ[i]? = some (some (.ref q)) → σ[j]? = some (some (.ref q)) → i = j
  cup : ∀ p, M.cp = some p → σ[0]? = some (some (.ref p)) ∧ ∃ ds, ε[0]? = some (.ow ds)

structure Step (G H : Hp) (O : Addr → Prop) (G' H' : Hp) (O' : Addr → Prop) : Prop where
  gg : ∀ q o, G q = some o → G' q = some o
  hh : ∀ q o, H q = some o → (∀ ps, o ≠ .tbl ps) → ¬ O q → H' q = some o
  hs : ∀ q, H' q = none → H q = none
  gn : ∀ q o, G' q = some o → G q = some o ∨ H q = none ∨ O q
  oo : ∀ q, O' q → O q ∨ H q = none

theorem Step.refl (G H : Hp) (O : Addr → Prop) : Step G H O G H O :=
  ⟨fun _ _ h => h, fun _ _ h _ _ => h, fun _ h => h, fun _ _ h => .inl h, fun _ h => .inl h⟩

theorem Step.trans {G H : Hp} {O : Addr → Prop} {G1 H1 : Hp} {O1 : Addr → Prop} {G2 H2 : Hp} {O2 : Addr → Prop}
    (sub1 : ∀ q o, G1 q = some o → H1 q = some o)
    (a : Step G H O G1 H1 O1) (b : Step G1 H1 O1 G2 H2 O2) : Step G H O G2 H2 O2 where
  gg := fun q o h => b.gg q o (a.gg q o h)
  hh := fun q o h nt no => by
    refine b.hh q o (a.hh q o h nt no) nt fun z => ?_
    rcases a.oo q z with z | z
    · exact no z
    · rw [h] at z; cases z
  hs := fun q h => a.hs q (b.hs q h)
  gn := fun q o h => by
    rcases b.gn q o h with z | z | z
    · exact a.gn q o z
    · exact .inr (.inl (a.hs q z))
    · rcases a.oo q z with y | y
      · exact .inr (.inr y)
      · exact .inr (.inl y)
  oo := fun q h => by
    rcases b.oo q h with z | z
    · exact a.oo q z
    · exact .inr (a.hs q z)

/-- a slot's address that is owned -/
theorem SR.own {M : Fr} {G H : Hp} {σ : St} {ε : Ev} (s : SR M G H σ ε) {q : Addr} (o : Own σ ε q) : G q = none ∧ ∃ vs, H q = some (.lst vs) := by
  obtain ⟨i, ds, e1, e2⟩ := o
  obtain ⟨p, vs, e3, g, h, _⟩ := s.slots i _ _ e1 e2
  cases e3
  exact ⟨g, vs, h⟩
theorem SR.lt {M : Fr} {G H : Hp} {σ : St} {ε : Ev} (s : SR M G H σ ε) {i : Nat} {x : Slot} (e : ε[i]? = some x) : ∃ o, σ[i]? = some o := by
  have h : i < ε.length := (List.getElem?_eq_some_iff.mp e).1
  rw [s.len] at h
  exact ⟨_, List.getElem?_eq_getElem h⟩
theorem SR.pu {M : Fr} {G H : Hp} {σ : St} {ε : Ev} (s : SR M G H σ ε) {i : Nat} {d : D} (e : ε[i]? = some (.pu d)) : ∃ v, σ[i]? = some (some v) ∧ Rp M.F G d v := by
  obtain ⟨o, e2⟩ := s.lt e
  obtain ⟨v, e3, r⟩ := s.slots i _ _ e e2
  subst e3
  exact ⟨v, e2, r⟩
theorem SR.ow {M : Fr} {G H : Hp} {σ : St} {ε : Ev} (s : SR M G H σ ε) {i : Nat} {ds : List D} (e : ε[i]? = some (.ow ds)) : ∃ p vs, σ[i]? = some (some (.ref p)) ∧ G p = none ∧ H p = some (.lst vs) ∧ RpL M.F G ds vs := by
  obtain ⟨o, e2⟩ := s.lt e
  obtain ⟨p, vs, e3, g, h, r⟩ := s.slots i _ _ e e2
  subst e3
  exact ⟨p, vs, e2, g, h, r⟩

/-- the heaps grow: new objects, known (in G) or not; tables may be longer -/
structure Grow (G H G' H' : Hp) : Prop where
  gg : ∀ q o, G q = some o → G' q = some o
  hh : ∀ q o, H q = some o → (∀ ps, o ≠ .tbl ps) → H' q = some o
  hs : ∀ q, H' q = none → H q = none
  gn : ∀ q o, G' q = some o → G q = some o ∨ H q = none
theorem Grow.refl (G H : Hp) : Grow G H G H := ⟨fun _ _ h => h, fun _ _ h _ => h, fun _ h => h, fun _ _ h => .inl h⟩
theorem Grow.step {G H G' H' : Hp} (g : Grow G H G' H') (O : Addr → Prop) : Step G H O G' H' O :=
  ⟨g.gg, fun q o h n _ => g.hh q o h n, g.hs, fun q o h => (g.gn q o h).elim .inl fun z => .inr (.inl z), fun _ h => .inl h⟩
/-- a frame's state over grown heaps -/
theorem SR.grow {M : Fr} {G H G' H' : Hp} {σ : St} {ε : Ev} (s : SR M G H σ ε) (g : Grow G H G' H') (sub : ∀ q o, G' q = some o → H' q = some o) (ntb : ∀ q ps, G' q ≠ some (.tbl ps)) (tabs : LamX.Tabs M.F.T H') : SR M G' H' σ ε where
  sub := sub
  ntb := ntb
  tabs := tabs
  len := s.len
  slots := fun i x o e1 e2 => by
    have h := s.slots i x o e1 e2
    cases x with
    | em => trivial
    | pu d =>
      obtain ⟨v, e, r⟩ := h
      exact ⟨v, e, r.mono g.gg⟩
    | ow ds =>
      obtain ⟨p, vs, e, n, hp, r⟩ := h
      refine ⟨p, vs, e, ?_, g.hh _ _ hp (fun ps z => by cases z), r.mono g.gg⟩
      cases q : G' p with
      | none => rfl
      | some u =>
        rcases g.gn p u q with z | z
        · rw [n] at z; cases z
        · rw [hp] at z; cases z
  inj := s.inj
  cup := s.cup
/-- one new object in both -/
theorem SR.new {M : Fr} {G H : Hp} {σ : St} {ε : Ev} (s : SR M G H σ ε) {p : Addr} {o : HO} (hp : H p = none) (ho : ∀ ps, o ≠ .tbl ps) :
    SR M (upd G p o) (upd H p o) σ ε ∧ Step G H (Own σ ε) (upd G p o) (upd H p o) (Own σ ε) := by
  have gp : G p = none := by
    cases q : G p with
    | none => rfl
    | some u => rw [s.sub p u q] at hp; cases hp
  have g : Grow G H (upd G p o) (upd H p o) := by
    refine ⟨fun q u h => ?_, fun q u h _ => ?_, fun q h => ?_, fun q u h => ?_⟩
    · rw [upd_ne (ne_of_none h gp)]; exact h
    · rw [upd_ne (ne_of_none h hp)]; exact h
    · unfold upd at h
      split at h
      · cases h
      · exact h
    · unfold upd at h
      split at h
      · rename_i e; subst e; exact .inr hp
      · exact .inl h
  refine ⟨s.grow g (fun q u h => ?_) (fun q ps h => ?_) (s.tabs.ext fun q u h => ?_), g.step _⟩
  · unfold upd at h ⊢
    split
    · rename_i e; rw [if_pos e] at h; exact h
    · rename_i e; rw [if_neg e] at h; exact s.sub q u h
  · unfold upd at h
    split at h
    · exact ho ps (Option.some.inj h)
    · exact s.ntb q ps h
  · rw [upd_ne (ne_of_none h hp)]; exact h
/-- one new object in H alone -/
theorem SR.newH {M : Fr} {G H : Hp} {σ : St} {ε : Ev} (s : SR M G H σ ε) {p : Addr} {o : HO} (hp : H p = none) :
    SR M G (upd H p o) σ ε ∧ Step G H (Own σ ε) G (upd H p o) (Own σ ε) ∧ G p = none ∧ ¬ Own σ ε p := by
  have gp : G p = none := by
    cases q : G p with
    | none => rfl
    | some u => rw [s.sub p u q] at hp; cases hp
  have g : Grow G H G (upd H p o) := by
    refine ⟨fun q u h => h, fun q u h _ => ?_, fun q h => ?_, fun q u h => .inl h⟩
    · rw [upd_ne (ne_of_none h hp)]; exact h
    · unfold upd at h
      split at h
      · cases h
      · exact h
  refine ⟨s.grow g (fun q u h => ?_) s.ntb (s.tabs.ext fun q u h => ?_), g.step _, gp, fun z => ?_⟩
  · rw [upd_ne (ne_of_none h gp)]; exact s.sub q u h
  · rw [upd_ne (ne_of_none h hp)]; exact h
  · obtain ⟨_, vs, e⟩ := s.own z
    rw [hp] at e; cases e
end PL
/-! PL, part b: the judgements of expressions and tests; names, constants, operators. -/
namespace PL
open PySem PySem.Spec PyProof.Rows L2

def ErrOk (M : Fr) (W : WX) (G H : Hp) (O : Addr → Prop) (c : Nat) : Prop :=
  ∀ (σ' : St) (G' H' : Hp) (ε' : Ev), SR M G' H' σ' ε' → Step G H O G' H' (Own σ' ε') → W (.ref (M.F.ca c)) none σ' H'

def Post {α β : Type} (M : Fr) (W : WX) (σ : St) (G H : Hp) (ε : Ev) (R : Hp → β → α → Prop) (r : Res (β × Ev)) (Q : α → Hp → Prop) : Prop :=
  match r with
  | .ok p => ∀ a G' H', SR M G' H' σ p.2 → Step G H (Own σ ε) G' H' (Own σ p.2) → R G' p.1 a → Q a H'
  | .err c => ErrOk M W G H (Own σ ε) c
  | .stuck => False

theorem ErrOk.shift {M : Fr} {W : WX} {G H G1 H1 : Hp} {O O1 : Addr → Prop} {c : Nat} (sub : ∀ q o, G1 q = some o → H1 q = some o) (st : Step G H O G1 H1 O1) (h : ErrOk M W G H O c) : ErrOk M W G1 H1 O1 c :=
  fun σ' G' H' ε' s t => h σ' G' H' ε' s (st.trans sub t)
theorem Post.shift {α β : Type} {M : Fr} {W : WX} {σ : St} {G H G1 H1 : Hp} {ε ε1 : Ev} {R : Hp → β → α → Prop} {r : Res (β × Ev)} {Q : α → Hp → Prop}
    (s1 : SR M G1 H1 σ ε1) (st : Step G H (Own σ ε) G1 H1 (Own σ ε1)) (h : Post M W σ G H ε R r Q) : Post M W σ G1 H1 ε1 R r Q := by
  cases r with
  | ok p => exact fun a G' H' s t q => h a G' H' s (st.trans s1.sub t) q
  | err c => exact ErrOk.shift s1.sub st h
  | stuck => exact h

/-- a reading keeps to a function of the slots -/
def Tr {α β : Type} (M : Fr) (W : WX) (R : Hp → β → α → Prop) (t : St → Hp → (α → Hp → Prop) → Prop) (f : Ev → Res (β × Ev)) : Prop :=
  ∀ (σ : St) (G H : Hp) (ε : Ev), SR M G H σ ε → ∀ Q : α → Hp → Prop, Post M W σ G H ε R (f ε) Q → t σ H Q

/-- one reading, then another -/
theorem Tr.bind {α β α' β' : Type} {M : Fr} {W : WX} {R : Hp → β → α → Prop} {R' : Hp → β' → α' → Prop} {t : St → Hp → (α → Hp → Prop) → Prop} {f : Ev → Res (β × Ev)}
    {t2 : α → St → Hp → (α' → Hp → Prop) → Prop} {f2 : β → Ev → Res (β' × Ev)} (h1 : Tr M W R t f)
    (h2 : ∀ (b : β) (a : α) (σ : St) (G H : Hp) (ε : Ev), SR M G H σ ε → R G b a → ∀ Q, Post M W σ G H ε R' (f2 b ε) Q → t2 a σ H Q) :
    Tr M W R' (fun σ H Q => t σ H fun a H1 => t2 a σ H1 Q) (fun ε => (f ε).bind fun p => f2 p.1 p.2) := by
  intro σ G H ε s Q hp
  refine h1 σ G H ε s _ ?_
  have hp' : Post M W σ G H ε R' ((f ε).bind fun p => f2 p.1 p.2) Q := hp
  cases e : f ε with
  | stuck => rw [e] at hp'; exact hp'
  | err c => rw [e] at hp'; exact hp'
  | ok p =>
    rw [e] at hp'
    intro a G1 H1 s1 st1 r1
    exact h2 p.1 a σ G1 H1 p.2 s1 r1 Q (hp'.shift s1 st1)

/-- two values, then an operation of values -/
def OpT (M : Fr) (W : WX) (r : R2) (op : D → D → Res D) : Prop :=
  ∀ (x y : D) (v w : V) (σ : St) (G H : Hp) (ε : Ev), SR M G H σ ε → Rp M.F G x v → Rp M.F G y w → ∀ Q : VK,
    Post M W σ G H ε (Rp M.F) ((op x y).bind fun d => .ok (d, ε)) Q → r v w H Q
def UnT (M : Fr) (W : WX) (r : V → Hp → VK → Prop) (op : D → Res D) : Prop :=
  ∀ (x : D) (v : V) (σ : St) (G H : Hp) (ε : Ev), SR M G H σ ε → Rp M.F G x v → ∀ Q : VK,
    Post M W σ G H ε (Rp M.F) ((op x).bind fun d => .ok (d, ε)) Q → r v H Q

@[reducible, simp] def eOp (op : D → D → Res D) (fa fb : Ev → Res (D × Ev)) : Ev → Res (D × Ev) := fun ε =>
  (fa ε).bind fun p => (fb p.2).bind fun q => (op p.1 q.1).bind fun d => .ok (d, q.2)
@[reducible, simp] def eUn (op : D → Res D) (fa : Ev → Res (D × Ev)) : Ev → Res (D × Ev) := fun ε =>
  (fa ε).bind fun p => (op p.1).bind fun d => .ok (d, p.2)

theorem tr_op {M : Fr} {W : WX} {r : R2} {op : D → D → Res D} {ta tb : TE} {fa fb : Ev → Res (D × Ev)} (ho : OpT M W r op) (ha : Tr M W (Rp M.F) ta fa) (hb : Tr M W (Rp M.F) tb fb) : Tr M W (Rp M.F) (tOp r ta tb) (eOp op fa fb) := by
  refine Tr.bind (f2 := fun x ε => (fb ε).bind fun q => (op x q.1).bind fun d => .ok (d, q.2)) (t2 := fun v σ H1 Q => tb σ H1 fun y H2 => r v y H2 Q) ha ?_
  intro x v σ G H ε s rx Q hp
  refine hb σ G H ε s _ ?_
  cases e : fb ε with
  | stuck => rw [e] at hp; exact hp
  | err c => rw [e] at hp; exact hp
  | ok q =>
    rw [e] at hp
    intro w G1 H1 s1 st1 ry
    exact ho x q.1 v w σ G1 H1 q.2 s1 (rx.mono st1.gg) ry Q (hp.shift s1 st1)
theorem tr_un {M : Fr} {W : WX} {r : V → Hp → VK → Prop} {op : D → Res D} {ta : TE} {fa : Ev → Res (D × Ev)} (ho : UnT M W r op) (ha : Tr M W (Rp M.F) ta fa) : Tr M W (Rp M.F) (tUn r ta) (eUn op fa) := by
  refine Tr.bind (f2 := fun x ε => (op x).bind fun d => .ok (d, ε)) (t2 := fun v σ H1 Q => r v H1 Q) ha ?_
  intro x v σ G H ε s rx Q hp
  exact ho x v σ G H ε s rx Q hp

/-! ### the context -/
structure CO (M : Fr) (W : WX) (k : Nat) (X : Cx) : Prop where
  hK : X.K = M.F.K
  calm : X.calm = true
  tk : L2N.Takes X W
  nd : X.N.Nodup
  hr : Room k X.A
  po : PassesOwn (model X.prog X.w) X.A X.env X.xe

def PV (M : Fr) (W : WX) (X : Cx) (e : Expr) (f : Ev → Res (D × Ev)) : Prop := ∃ t, PE X e t ∧ Tr M W (Rp M.F) t f
def RB : Hp → Bool → Bool → Prop := fun _ b c => b = c
def PB (M : Fr) (W : WX) (X : Cx) (e : Expr) (f : Ev → Res (Bool × Ev)) : Prop := ∃ t, PT X e t ∧ Tr M W RB t f
def PBW (M : Fr) (W : WX) (X : Cx) (e : Expr) (f : Ev → Res (Bool × Ev)) : Prop := ∃ t, PW X e t ∧ Tr M W RB t f
def PVs (M : Fr) (W : WX) (X : Cx) (es : List Expr) (f : Ev → Res (List D × Ev)) : Prop := ∃ t, PA X es t ∧ Tr M W (RpL M.F) t f

/-! ### names and constants -/
@[reducible, simp] def eC (d : D) : Ev → Res (D × Ev) := fun ε => .ok (d, ε)
@[reducible, simp] def getPu (ε : Ev) (i : Nat) : Res D := match ε[i]? with
  | some (.pu d) => .ok d
  | _ => .stuck
@[reducible, simp] def eV (i : Nat) : Ev → Res (D × Ev) := fun ε => (getPu ε i).bind fun d => .ok (d, ε)

theorem Tr.const {M : Fr} {W : WX} {d : D} {v : V} (h : ∀ G, Rp M.F G d v) : Tr M W (Rp M.F) (tC v) (eC d) := fun σ G H ε s Q hp =>
  hp v G H s (Step.refl ..) (h G)
theorem tr_var {M : Fr} {W : WX} (i : Nat) : Tr M W (Rp M.F) (tVar i) (eV i) := by
  intro σ G H ε s Q hp
  cases e : ε[i]? with
  | none => simp [eV, getPu, e, Post] at hp
  | some x =>
    cases x with
    | em => simp [eV, getPu, e, Post] at hp
    | ow ds => simp [eV, getPu, e, Post] at hp
    | pu d =>
      obtain ⟨v, e2, r⟩ := s.pu e
      simp only [eV, getPu, e, Res.bind_ok, Post] at hp
      exact ⟨v, e2, hp v G H s (Step.refl ..) r⟩

section
variable {M : Fr} {W : WX} {X : Cx} {k : Nat}
theorem pv_int {i : Int} {j pos} : PV M W X (.Constant (.int i) j pos) (eC (.int i)) := ⟨_, pe_int, Tr.const fun _ => by simp only [Rp]⟩
theorem pv_bl {b : Bool} {j pos} : PV M W X (.Constant (.bool b) j pos) (eC (.bl b)) := ⟨_, pe_bl, Tr.const fun _ => by simp only [Rp]⟩
theorem pv_non {j pos} : PV M W X (.Constant .none j pos) (eC .non) := ⟨_, pe_non, Tr.const fun _ => by simp only [Rp]⟩
theorem pv_str {x : Str} {j pos} : PV M W X (.Constant (.str x) j pos) (eC (.str x)) := ⟨_, pe_str, Tr.const fun _ => by simp only [Rp]⟩
theorem pv_var (i : Nat) {x : Str} {pos : Pos} (hN : X.N[i]? = some x := by rfl) (hv : Vis X.env.scope x := by first | exact Or.inl rfl | exact Or.inr (Or.inl rfl) | exact Or.inr (Or.inr rfl)) (hd : (x == ("__debug__" : Str)) = false := by decide)
    (hcd : (x == ("__classdict__" : Str)) = false := by decide) : PV M W X (.Name x pos) (eV i) := ⟨_, pe_var hN hv hd hcd, tr_var i⟩
theorem pv_glob {x : Str} {v : V} {u : Value} {d : D} {pos : Pos} (hm : X.mg x = some u) (r : RelV v u) (hd : ∀ G, Rp M.F G d v) (hg : Gl X x := by rfl) (hdb : (x == ("__debug__" : Str)) = false := by decide) : PV M W X (.Name x pos) (eC d) :=
  ⟨_, pe_glob hg hm r hdb, Tr.const hd⟩

/-! ### arithmetic -/
@[simp] def dSub : D → D → Res D
  | .int i, .int j => .ok (.int (i - j))
  | _, _ => .stuck
def mulOk (i j : Int) : Bool := decide (i.natAbs.log2 + j.natAbs.log2 < 134000000) || decide (i.natAbs.log2 < 60) || decide (j.natAbs.log2 < 60)
def divOk (j : Int) : Bool := decide (j ≠ 0 ∧ j.natAbs.log2 < 9000)
def dDiv : D → D → Res D
  | .int i, .int j => if divOk j then .ok (.int (i.fdiv j)) else .stuck
  | _, _ => .stuck
def dMod : D → D → Res D
  | .int i, .int j => if j = 0 then .stuck else .ok (.int (i.fmod j))
  | _, _ => .stuck
def powOk (i j : Int) : Bool := decide (0 ≤ j ∧ j ≤ 1000000 ∧ i.natAbs < 2 ^ 64)
def dPow : D → D → Res D
  | .int i, .int j => if powOk i j then .ok (.int (i ^ j.toNat)) else .stuck
  | _, _ => .stuck
def dShl : D → D → Res D
  | .int i, .int j => if powOk i j then .ok (.int (i * 2 ^ j.toNat)) else .stuck
  | _, _ => .stuck
@[simp] def dNeg : D → Res D
  | .int i => .ok (.int (-i))
  | _ => .stuck
@[simp] def dCmp (p : Int → Int → Bool) : D → D → Res D
  | .int i, .int j => .ok (.bl (p i j))
  | _, _ => .stuck

theorem rp_int {F : Fx} {G : Hp} {i : Int} {v : V} : Rp F G (.int i) v ↔ v = .int i := by simp only [Rp]
theorem rp_bl {F : Fx} {G : Hp} {i : Bool} {v : V} : Rp F G (.bl i) v ↔ v = .bl i := by simp only [Rp]
theorem rp_str {F : Fx} {G : Hp} {i : Str} {v : V} : Rp F G (.str i) v ↔ v = .str i := by simp only [Rp]
theorem rp_non {F : Fx} {G : Hp} {v : V} : Rp F G .non v ↔ v = .non := by simp only [Rp]
theorem rp_lst {F : Fx} {G : Hp} {ds : List D} {v : V} : Rp F G (.lst ds) v ↔ ∃ a vs, v = .ref a ∧ G a = some (.lst vs) ∧ RpL F G ds vs := by simp only [Rp]
theorem rp_tup {F : Fx} {G : Hp} {ds : List D} {v : V} : Rp F G (.tup ds) v ↔ ∃ a vs, v = .ref a ∧ SqT F.K G a vs ∧ RpL F G ds vs := by simp only [Rp]

/-- two ints: the shape of most operators -/
theorem opT_int {r : R2} {op : D → D → Res D} (h : ∀ i j d, op (.int i) (.int j) = .ok d → ∃ v, (∀ F G, Rp F G d v) ∧ ∀ H (Q : VK), Q v H → r (.int i) (.int j) H Q) (hn : ∀ i j c, op (.int i) (.int j) ≠ .err c)
    (ho : ∀ x y, (∀ i j, ¬ (x = .int i ∧ y = .int j)) → op x y = .stuck) : OpT M W r op := by
  intro x y v w σ G H ε s rx ry Q hp
  by_cases hi : ∃ i j, x = D.int i ∧ y = D.int j
  · obtain ⟨i, j, rfl, rfl⟩ := hi
    rw [rp_int] at rx ry
    subst rx ry
    cases e : op (.int i) (.int j) with
    | stuck => rw [e] at hp; exact hp.elim
    | err c => exact absurd e (hn i j c)
    | ok d =>
      rw [e] at hp
      obtain ⟨v, hv, hr⟩ := h i j d e
      exact hr H Q (hp v G H s (Step.refl ..) (hv M.F G))
  · rw [ho x y fun i j z => hi ⟨i, j, z⟩] at hp
    exact hp.elim

theorem not_ints {op : D → D → Res D} (h1 : ∀ x y, (∀ i, x ≠ .int i) → op x y = .stuck) (h2 : ∀ x y, (∀ i, y ≠ .int i) → op x y = .stuck) (x y : D) (h : ∀ i j, ¬ (x = .int i ∧ y = .int j)) : op x y = .stuck := by
  cases x with
  | int i =>
    refine h2 _ y fun j e => h i j ⟨rfl, e⟩
  | _ => exact h1 _ y fun i e => by cases e

theorem opT_sub : OpT M W (rI0 fun i j => .int (i - j)) dSub := by
  refine opT_int (fun i j d e => ?_) (fun i j c e => by simp [dSub] at e) (not_ints (fun x y h => ?_) fun x y h => ?_)
  · simp only [dSub, Res.ok.injEq] at e
    subst e
    exact ⟨_, fun F G => rp_int.mpr rfl, fun H Q q => ⟨i, j, rfl, rfl, q⟩⟩
  · cases x <;> first | rfl | exact absurd rfl (h _)
  · cases y <;> first | (cases x <;> rfl) | exact absurd rfl (h _)
theorem opT_div : OpT M W (rI (fun i j => divOk j = true) fun i j => .int (i.fdiv j)) dDiv := by
  refine opT_int (fun i j d e => ?_) (fun i j c e => by simp only [dDiv] at e; split at e <;> cases e) (not_ints (fun x y h => ?_) fun x y h => ?_)
  · simp only [dDiv] at e
    split at e
    · rename_i hd
      simp only [Res.ok.injEq] at e
      subst e
      exact ⟨_, fun F G => rp_int.mpr rfl, fun H Q q => ⟨i, j, rfl, rfl, hd, q⟩⟩
    · cases e
  · cases x <;> first | rfl | exact absurd rfl (h _)
  · cases y <;> first | (cases x <;> rfl) | exact absurd rfl (h _)
theorem opT_mod : OpT M W (rI (fun _ j => j ≠ 0) fun i j => .int (i.fmod j)) dMod := by
  refine opT_int (fun i j d e => ?_) (fun i j c e => by simp only [dMod] at e; split at e <;> cases e) (not_ints (fun x y h => ?_) fun x y h => ?_)
  · simp only [dMod] at e
    split at e
    · cases e
    · rename_i hd
      simp only [Res.ok.injEq] at e
      subst e
      exact ⟨_, fun F G => rp_int.mpr rfl, fun H Q q => ⟨i, j, rfl, rfl, hd, q⟩⟩
  · cases x <;> first | rfl | exact absurd rfl (h _)
  · cases y <;> first | (cases x <;> rfl) | exact absurd rfl (h _)
theorem opT_pow : OpT M W (rI CPow fun i j => .int (i ^ j.toNat)) dPow := by
  refine opT_int (fun i j d e => ?_) (fun i j c e => by simp only [dPow] at e; split at e <;> cases e) (not_ints (fun x y h => ?_) fun x y h => ?_)
  · simp only [dPow] at e
    split at e
    · rename_i hd
      simp only [Res.ok.injEq] at e
      subst e
      exact ⟨_, fun F G => rp_int.mpr rfl, fun H Q q => ⟨i, j, rfl, rfl, (of_decide_eq_true hd : 0 ≤ j ∧ j ≤ 1000000 ∧ i.natAbs < 2 ^ 64), q⟩⟩
    · cases e
  · cases x <;> first | rfl | exact absurd rfl (h _)
  · cases y <;> first | (cases x <;> rfl) | exact absurd rfl (h _)
theorem opT_shl : OpT M W (rI CPow fun i j => .int (i * 2 ^ j.toNat)) dShl := by
  refine opT_int (fun i j d e => ?_) (fun i j c e => by simp only [dShl] at e; split at e <;> cases e) (not_ints (fun x y h => ?_) fun x y h => ?_)
  · simp only [dShl] at e
    split at e
    · rename_i hd
      simp only [Res.ok.injEq] at e
      subst e
      exact ⟨_, fun F G => rp_int.mpr rfl, fun H Q q => ⟨i, j, rfl, rfl, (of_decide_eq_true hd : 0 ≤ j ∧ j ≤ 1000000 ∧ i.natAbs < 2 ^ 64), q⟩⟩
    · cases e
  · cases x <;> first | rfl | exact absurd rfl (h _)
  · cases y <;> first | (cases x <;> rfl) | exact absurd rfl (h _)
theorem opT_cmp (p : Int → Int → Bool) : OpT M W (rI0 fun i j => .bl (p i j)) (dCmp p) := by
  refine opT_int (fun i j d e => ?_) (fun i j c e => by simp [dCmp] at e) (not_ints (fun x y h => ?_) fun x y h => ?_)
  · simp only [dCmp, Res.ok.injEq] at e
    subst e
    exact ⟨_, fun F G => rp_bl.mpr rfl, fun H Q q => ⟨i, j, rfl, rfl, q⟩⟩
  · cases x <;> first | rfl | exact absurd rfl (h _)
  · cases y <;> first | (cases x <;> rfl) | exact absurd rfl (h _)
theorem unT_neg : UnT M W (rU fun i => .int (-i)) dNeg := by
  intro x v σ G H ε s rx Q hp
  cases x with
  | int i =>
    rw [rp_int] at rx
    subst rx
    exact ⟨i, rfl, hp _ G H s (Step.refl ..) (rp_int.mpr rfl)⟩
  | _ => exact hp.elim
theorem op_fdivWN : OpR X (binaryOp .FloorDiv) (rI (fun i j => divOk j = true) fun i j => .int (i.fdiv j)) := opI fun _ j _ _ _ _ _ hc q => by
  have hd := of_decide_eq_true hc
  exact floordiv_int hd.1 q (.inl (PyProof.noPylong_of_log2 hd.2))

variable {a b : Expr} {fa fb : Ev → Res (D × Ev)} {pos : Pos}
theorem pv_sub (ha : PV M W X a fa) (hb : PV M W X b fb) : PV M W X (.BinOp a .Sub b pos) (eOp dSub fa fb) := by
  obtain ⟨ta, ea, qa⟩ := ha
  obtain ⟨tb, eb, qb⟩ := hb
  exact ⟨_, pe_op op_sub ea eb, tr_op opT_sub qa qb⟩
theorem pv_div (ha : PV M W X a fa) (hb : PV M W X b fb) : PV M W X (.BinOp a .FloorDiv b pos) (eOp dDiv fa fb) := by
  obtain ⟨ta, ea, qa⟩ := ha
  obtain ⟨tb, eb, qb⟩ := hb
  exact ⟨_, pe_op op_fdivWN ea eb, tr_op opT_div qa qb⟩
theorem pv_mod (ha : PV M W X a fa) (hb : PV M W X b fb) : PV M W X (.BinOp a .Mod b pos) (eOp dMod fa fb) := by
  obtain ⟨ta, ea, qa⟩ := ha
  obtain ⟨tb, eb, qb⟩ := hb
  exact ⟨_, pe_op op_modN ea eb, tr_op opT_mod qa qb⟩
theorem pv_pow (ha : PV M W X a fa) (hb : PV M W X b fb) : PV M W X (.BinOp a .Pow b pos) (eOp dPow fa fb) := by
  obtain ⟨ta, ea, qa⟩ := ha
  obtain ⟨tb, eb, qb⟩ := hb
  exact ⟨_, pe_op op_pow ea eb, tr_op opT_pow qa qb⟩
theorem pv_shl (ha : PV M W X a fa) (hb : PV M W X b fb) : PV M W X (.BinOp a .LShift b pos) (eOp dShl fa fb) := by
  obtain ⟨ta, ea, qa⟩ := ha
  obtain ⟨tb, eb, qb⟩ := hb
  exact ⟨_, pe_op op_shl ea eb, tr_op opT_shl qa qb⟩
theorem pv_neg (ha : PV M W X a fa) : PV M W X (.UnaryOp .USub a pos) (eUn dNeg fa) := by
  obtain ⟨ta, ea, qa⟩ := ha
  exact ⟨_, pe_un un_neg ea, tr_un unT_neg qa⟩

/-! ### comparisons -/
@[simp] abbrev dLt := dCmp fun i j => decide (i < j)
@[simp] abbrev dLe := dCmp fun i j => decide (i ≤ j)
@[simp] abbrev dGt := dCmp fun i j => decide (j < i)
@[simp] abbrev dGe := dCmp fun i j => decide (j ≤ i)
/-- a comparison's operator, its rule, its function -/
structure CmpR (M : Fr) (W : WX) (X : Cx) (op : CmpOp) (g : D → D → Res D) : Prop where
  ex : ∃ r, OpR X (compareOp op) r ∧ OpT M W r g
theorem cm_lt : CmpR M W X .Lt dLt := ⟨_, op_lt, opT_cmp _⟩
theorem cm_le : CmpR M W X .LtE dLe := ⟨_, op_le, opT_cmp _⟩
theorem cm_gt : CmpR M W X .Gt dGt := ⟨_, op_gt, opT_cmp _⟩
theorem cm_ge : CmpR M W X .GtE dGe := ⟨_, op_ge, opT_cmp _⟩
theorem pv_cmp {op : CmpOp} {g : D → D → Res D} (h : CmpR M W X op g) (ha : PV M W X a fa) (hb : PV M W X b fb) (hm : behindInMarks op b = false := by first | exact nomark _ | rfl) : PV M W X (.Compare a [op] [b] pos) (eOp g fa fb) := by
  obtain ⟨r, h1, h2⟩ := h.ex
  obtain ⟨ta, ea, qa⟩ := ha
  obtain ⟨tb, eb, qb⟩ := hb
  exact ⟨_, pe_cmpR h1 ea eb hm, tr_op h2 qa qb⟩

/-! ### tests -/
@[reducible, simp] def asB (d : D) : Res Bool := match d with
  | .bl b => .ok b
  | _ => .stuck
@[reducible, simp] def bOf (f : Ev → Res (D × Ev)) : Ev → Res (Bool × Ev) := fun ε => (f ε).bind fun p => (asB p.1).bind fun b => .ok (b, p.2)
theorem tr_test {t : TE} {f : Ev → Res (D × Ev)} (h : Tr M W (Rp M.F) t f) : Tr M W RB (tTest t) (bOf f) := by
  refine Tr.bind (f2 := fun d ε => (asB d).bind fun b => .ok (b, ε)) (t2 := fun v σ H1 Q => ∃ k, v = .bl k ∧ Q k H1) h ?_
  intro d v σ G H ε s rd Q hp
  cases d with
  | bl b =>
    rw [rp_bl] at rd
    exact ⟨b, rd, hp b G H s (Step.refl ..) rfl⟩
  | _ => exact hp.elim
theorem tB_eq (t : TE) : tB t = tTest t := rfl
/-- an expression that gives a bool, as a test -/
theorem pb_val (ha : PV M W X a fa) (he : ∀ whole, isTrue a X.env whole = (do let v ← whole; standAt a.pos; holding [v] (truthy v)) := by intro _; rfl) : PB M W X a (bOf fa) := by
  obtain ⟨ta, ea, qa⟩ := ha
  exact ⟨_, pt_val ea he, by rw [tB_eq]; exact tr_test qa⟩
theorem pb_cmp {op : CmpOp} {g : D → D → Res D} (h : CmpR M W X op g) (ha : PV M W X a fa) (hb : PV M W X b fb) (hm : behindInMarks op b = false := by first | exact nomark _ | rfl) : PB M W X (.Compare a [op] [b] pos) (bOf (eOp g fa fb)) := by
  obtain ⟨r, h1, h2⟩ := h.ex
  obtain ⟨ta, ea, qa⟩ := ha
  obtain ⟨tb, eb, qb⟩ := hb
  exact ⟨_, pt_cmpR h1 ea eb hm, tr_test (tr_op h2 qa qb)⟩
@[reducible, simp] def bNot (f : Ev → Res (Bool × Ev)) : Ev → Res (Bool × Ev) := fun ε => (f ε).bind fun p => .ok (!p.1, p.2)
@[reducible, simp] def bAnd (f g : Ev → Res (Bool × Ev)) : Ev → Res (Bool × Ev) := fun ε => (f ε).bind fun p => if p.1 then g p.2 else .ok (false, p.2)
@[reducible, simp] def bOr (f g : Ev → Res (Bool × Ev)) : Ev → Res (Bool × Ev) := fun ε => (f ε).bind fun p => if p.1 then .ok (true, p.2) else g p.2
variable {ba bb : Ev → Res (Bool × Ev)} {rest : List Expr}
theorem pb_not (ha : PB M W X a ba) : PB M W X (.UnaryOp .Not a pos) (bNot ba) := by
  obtain ⟨ta, ea, qa⟩ := ha
  refine ⟨_, pt_not ea, Tr.bind (f2 := fun b ε => .ok (!b, ε)) (t2 := fun c σ H1 Q => Q (!c) H1) qa ?_⟩
  intro b c σ G H ε s r Q hp
  exact hp _ G H s (Step.refl ..) (by simp only [RB] at r ⊢; rw [r])
theorem pb_and1 (ha : PB M W X a ba) : PBW M W X (.BoolOp .And [a] pos) ba := by
  obtain ⟨ta, ea, qa⟩ := ha
  exact ⟨_, pw_and1 ea, qa⟩
theorem pb_or1 (ha : PB M W X a ba) : PBW M W X (.BoolOp .Or [a] pos) ba := by
  obtain ⟨ta, ea, qa⟩ := ha
  exact ⟨_, pw_or1 ea, qa⟩
theorem pb_and (ha : PB M W X a ba) (hb : PBW M W X (.BoolOp .And (b :: rest) pos) bb) : PBW M W X (.BoolOp .And (a :: b :: rest) pos) (bAnd ba bb) := by
  obtain ⟨ta, ea, qa⟩ := ha
  obtain ⟨tb, eb, qb⟩ := hb
  refine ⟨_, pw_and ea eb, Tr.bind (f2 := fun c ε => if c then bb ε else .ok (false, ε)) (t2 := fun c σ H1 Q => if c = true then tb σ H1 Q else Q false H1) qa ?_⟩
  intro c c' σ G H ε s r Q hp
  simp only [RB] at r
  subst r
  cases c with
  | true => exact qb σ G H ε s Q hp
  | false => exact hp false G H s (Step.refl ..) rfl
theorem pb_or (ha : PB M W X a ba) (hb : PBW M W X (.BoolOp .Or (b :: rest) pos) bb) : PBW M W X (.BoolOp .Or (a :: b :: rest) pos) (bOr ba bb) := by
  obtain ⟨ta, ea, qa⟩ := ha
  obtain ⟨tb, eb, qb⟩ := hb
  refine ⟨_, pw_or ea eb, Tr.bind (f2 := fun c ε => if c then .ok (true, ε) else bb ε) (t2 := fun c σ H1 Q => if c = true then Q true H1 else tb σ H1 Q) qa ?_⟩
  intro c c' σ G H ε s r Q hp
  simp only [RB] at r
  subst r
  cases c with
  | true => exact hp true G H s (Step.refl ..) rfl
  | false => exact qb σ G H ε s Q hp
theorem PBW.pb (h : PBW M W X a ba) : PB M W X a ba := by
  obtain ⟨t, e, q⟩ := h
  exact ⟨t, e.pt, q⟩
/-! .. as values -/
@[reducible, simp] def eNot (f : Ev → Res (D × Ev)) : Ev → Res (D × Ev) := fun ε => (f ε).bind fun p => (asB p.1).bind fun b => .ok (.bl (!b), p.2)
@[reducible, simp] def eAnd (f g : Ev → Res (D × Ev)) : Ev → Res (D × Ev) := fun ε => (f ε).bind fun p => (asB p.1).bind fun b => if b then g p.2 else .ok (.bl false, p.2)
@[reducible, simp] def eOr (f g : Ev → Res (D × Ev)) : Ev → Res (D × Ev) := fun ε => (f ε).bind fun p => (asB p.1).bind fun b => if b then .ok (.bl true, p.2) else g p.2
theorem pv_one {op} (ha : PV M W X a fa) : PV M W X (.BoolOp op [a] pos) fa := by
  obtain ⟨ta, ea, qa⟩ := ha
  exact ⟨_, pe_one ea, qa⟩
theorem pv_and (ha : PV M W X a fa) (hb : PV M W X (.BoolOp .And (b :: rest) pos) fb) : PV M W X (.BoolOp .And (a :: b :: rest) pos) (eAnd fa fb) := by
  obtain ⟨ta, ea, qa⟩ := ha
  obtain ⟨tb, eb, qb⟩ := hb
  refine ⟨_, pe_and ea eb, Tr.bind (f2 := fun x ε => (asB x).bind fun b => if b then fb ε else .ok (.bl false, ε)) (t2 := fun x σ H1 Q => ∃ c, x = .bl c ∧ if c = true then tb σ H1 Q else Q (.bl false) H1) qa ?_⟩
  intro x v σ G H ε s r Q hp
  cases x with
  | bl c =>
    rw [rp_bl] at r
    refine ⟨c, r, ?_⟩
    cases c with
    | true => exact qb σ G H ε s Q hp
    | false => exact hp _ G H s (Step.refl ..) (rp_bl.mpr rfl)
  | _ => exact hp.elim
theorem pv_or (ha : PV M W X a fa) (hb : PV M W X (.BoolOp .Or (b :: rest) pos) fb) : PV M W X (.BoolOp .Or (a :: b :: rest) pos) (eOr fa fb) := by
  obtain ⟨ta, ea, qa⟩ := ha
  obtain ⟨tb, eb, qb⟩ := hb
  refine ⟨_, pe_or ea eb, Tr.bind (f2 := fun x ε => (asB x).bind fun b => if b then .ok (.bl true, ε) else fb ε) (t2 := fun x σ H1 Q => ∃ c, x = .bl c ∧ if c = true then Q (.bl true) H1 else tb σ H1 Q) qa ?_⟩
  intro x v σ G H ε s r Q hp
  cases x with
  | bl c =>
    rw [rp_bl] at r
    refine ⟨c, r, ?_⟩
    cases c with
    | false => exact qb σ G H ε s Q hp
    | true => exact hp _ G H s (Step.refl ..) (rp_bl.mpr rfl)
  | _ => exact hp.elim
theorem pv_not (ha : PV M W X a fa) : PV M W X (.UnaryOp .Not a pos) (eNot fa) := by
  obtain ⟨ta, ea, qa⟩ := ha
  refine ⟨_, pe_not ea, Tr.bind (f2 := fun x ε => (asB x).bind fun b => .ok (D.bl (!b), ε)) (t2 := fun x σ H1 (Q : VK) => ∃ c, x = V.bl c ∧ Q (V.bl (!c)) H1) qa ?_⟩
  intro x v σ G H ε s r Q hp
  cases x with
  | bl c =>
    rw [rp_bl] at r
    exact ⟨c, r, hp _ G H s (Step.refl ..) (rp_bl.mpr rfl)⟩
  | _ => exact hp.elim
@[reducible, simp] def eIf (c : Ev → Res (Bool × Ev)) (f g : Ev → Res (D × Ev)) : Ev → Res (D × Ev) := fun ε => (c ε).bind fun p => if p.1 then f p.2 else g p.2
theorem pv_ifExp {t : Expr} (hc : PB M W X t ba) (ha : PV M W X a fa) (hb : PV M W X b fb) : PV M W X (.IfExp t a b pos) (eIf ba fa fb) := by
  obtain ⟨tc, ec, qc⟩ := hc
  obtain ⟨ta, ea, qa⟩ := ha
  obtain ⟨tb, eb, qb⟩ := hb
  refine ⟨_, pe_ifExp ec ea eb, Tr.bind (f2 := fun c ε => if c then fa ε else fb ε) (t2 := fun c σ H1 Q => if c = true then ta σ H1 Q else tb σ H1 Q) qc ?_⟩
  intro c c' σ G H ε s r Q hp
  simp only [RB] at r
  subst r
  cases c with
  | true => exact qa σ G H ε s Q hp
  | false => exact qb σ G H ε s Q hp
end
end PL
/-! PL, part c: displays, new lists, subscripts, +, *, ==, calls of built-ins. -/
namespace PL
open PySem PySem.Spec PyProof.Rows L2

/-! ### argument lists -/
@[reducible, simp] def aNil : Ev → Res (List D × Ev) := fun ε => .ok ([], ε)
@[reducible, simp] def aCons (f : Ev → Res (D × Ev)) (g : Ev → Res (List D × Ev)) : Ev → Res (List D × Ev) := fun ε => (f ε).bind fun p => (g p.2).bind fun q => .ok (p.1 :: q.1, q.2)
/-- the list of arguments has their number -/
def LenOk (n : Nat) (f : Ev → Res (List D × Ev)) : Prop := ∀ ε p, f ε = .ok p → p.1.length = n
def PA' (M : Fr) (W : WX) (X : Cx) (es : List Expr) (f : Ev → Res (List D × Ev)) : Prop := (∃ t, PA X es t ∧ Tr M W (RpL M.F) t f) ∧ LenOk es.length f

section
variable {M : Fr} {W : WX} {X : Cx} {k : Nat} {a b e : Expr} {es rest : List Expr} {fa fb f : Ev → Res (D × Ev)} {g : Ev → Res (List D × Ev)} {pos : Pos}
theorem pa_nil' : PA' M W X [] aNil := by
  refine ⟨⟨_, L2.pa_nil, fun σ G H ε s Q hp => hp [] G H s (Step.refl ..) RpL.nil⟩, fun ε p e => ?_⟩
  cases e; rfl
theorem pa_cons' (ha : PV M W X a fa) (hg : PA' M W X es g) (hs : starEach (a :: es) X.env = (false, eval a X.env) :: starEach es X.env := by rfl) : PA' M W X (a :: es) (aCons fa g) := by
  obtain ⟨ta, ea, qa⟩ := ha
  obtain ⟨⟨tg, eg, qg⟩, hl⟩ := hg
  refine ⟨⟨_, L2.pa_cons ea eg hs, Tr.bind (f2 := fun x ε => (g ε).bind fun q => .ok (x :: q.1, q.2)) (t2 := fun v σ H1 (Q : List V → Hp → Prop) => tg σ H1 fun xs H2 => Q (v :: xs) H2) qa ?_⟩, fun ε p e => ?_⟩
  · intro x v σ G H ε s rx Q hp
    refine qg σ G H ε s _ ?_
    cases e : g ε with
    | stuck => rw [e] at hp; exact hp
    | err c => rw [e] at hp; exact hp
    | ok q =>
      rw [e] at hp
      intro xs G1 H1 s1 st1 rs
      exact hp _ G1 H1 s1 st1 (RpL.cons (rx.mono st1.gg) rs)
  · change ((fa ε).bind fun p => (g p.2).bind fun q => Res.ok (p.1 :: q.1, q.2)) = .ok p at e
    cases e1 : fa ε with
    | stuck => rw [e1] at e; cases e
    | err c => rw [e1] at e; cases e
    | ok q =>
      rw [e1] at e
      try simp only [Res.bind_ok] at e
      cases e2 : g q.2 with
      | stuck => rw [e2] at e; cases e
      | err c => rw [e2] at e; cases e
      | ok q2 =>
        rw [e2] at e
        simp only [Res.bind_ok, Res.ok.injEq] at e
        subst e
        simp [hl _ _ e2]

/-! ### new lists -/
def PostN (M : Fr) (W : WX) (σ : St) (G H : Hp) (ε : Ev) (r : Res (List D × Ev)) (Q : VK) : Prop :=
  match r with
  | .ok p => ∀ a vs G' H', SR M G' H' σ p.2 → Step G H (Own σ ε) G' H' (Own σ p.2) → G' a = none → H' a = some (.lst vs) → RpL M.F G' p.1 vs → H a = none → ¬ Own σ p.2 a → Q (.ref a) H'
  | .err c => ErrOk M W G H (Own σ ε) c
  | .stuck => False
def TrN (M : Fr) (W : WX) (t : TE) (f : Ev → Res (List D × Ev)) : Prop := ∀ (σ : St) (G H : Hp) (ε : Ev), SR M G H σ ε → ∀ Q, PostN M W σ G H ε (f ε) Q → t σ H Q
def PN (M : Fr) (W : WX) (X : Cx) (e : Expr) (f : Ev → Res (List D × Ev)) : Prop := ∃ t, PE X e t ∧ TrN M W t f
theorem PostN.shift {σ : St} {G H G1 H1 : Hp} {ε ε1 : Ev} {r : Res (List D × Ev)} {Q : VK}
    (s1 : SR M G1 H1 σ ε1) (st : Step G H (Own σ ε) G1 H1 (Own σ ε1)) (h : PostN M W σ G H ε r Q) : PostN M W σ G1 H1 ε1 r Q := by
  cases r with
  | ok p => exact fun a vs G' H' s t n hp r nh no => h a vs G' H' s (st.trans s1.sub t) n hp r (st.hs a nh) no
  | err c => exact ErrOk.shift s1.sub st h
  | stuck => exact h

/-- a list is known from now on -/
theorem SR.freeze {G H : Hp} {σ : St} {ε : Ev} (s : SR M G H σ ε) {p : Addr} {vs : List V} (gp : G p = none) (hp : H p = some (.lst vs)) (no : ¬ Own σ ε p) : SR M (upd G p (.lst vs)) H σ ε where
  sub := fun q o h => by
    unfold upd at h
    split at h
    · rename_i e; subst e; rw [hp]; exact h
    · exact s.sub q o h
  ntb := fun q ps h => by
    unfold upd at h
    split at h
    · cases h
    · exact s.ntb q ps h
  tabs := s.tabs
  len := s.len
  slots := fun i x o e1 e2 => by
    have h := s.slots i x o e1 e2
    have mono : ∀ q o, G q = some o → upd G p (.lst vs) q = some o := fun q o h => by
      rw [upd_ne (ne_of_none h gp)]; exact h
    cases x with
    | em => trivial
    | pu d =>
      obtain ⟨v, e, r⟩ := h
      exact ⟨v, e, r.mono mono⟩
    | ow ds =>
      obtain ⟨q, ws, e, n, hq, r⟩ := h
      subst e
      refine ⟨q, ws, rfl, ?_, hq, r.mono mono⟩
      rw [upd_ne (fun e => no ⟨i, ds, e1, by rw [← e]; exact e2⟩)]
      exact n
  inj := s.inj
  cup := s.cup
@[reducible, simp] def eL (f : Ev → Res (List D × Ev)) : Ev → Res (D × Ev) := fun ε => (f ε).bind fun p => .ok (.lst p.1, p.2)
theorem TrN.tr {t : TE} (h : TrN M W t g) : Tr M W (Rp M.F) t (eL g) := by
  intro σ G H ε s Q hp
  refine h σ G H ε s Q ?_
  simp only [eL] at hp
  cases e : g ε with
  | stuck => rw [e] at hp; exact hp
  | err c => rw [e] at hp; exact hp
  | ok p =>
    rw [e] at hp
    intro a vs G' H' s' st n ha r nh no
    have mono : ∀ q o, G' q = some o → upd G' a (.lst vs) q = some o := fun q o h => by
      rw [upd_ne (ne_of_none h n)]; exact h
    refine hp (.ref a) (upd G' a (.lst vs)) H' (s'.freeze n ha no) ⟨fun q o h => mono q o (st.gg q o h), st.hh, st.hs, fun q o h => ?_, st.oo⟩ (rp_lst.mpr ⟨a, vs, rfl, upd_same, r.mono mono⟩)
    unfold upd at h
    split at h
    · rename_i e; subst e; exact .inr (.inl nh)
    · exact st.gn q o h
theorem PN.pv (h : PN M W X e g) : PV M W X e (eL g) := by
  obtain ⟨t, et, q⟩ := h
  exact ⟨t, et, q.tr⟩

/-! ### displays -/
theorem pn_lst (h : PA' M W X es g) (hn : es.length ≤ 1000 := by decide) : PN M W X (.List es pos) g := by
  obtain ⟨⟨t, et, q⟩, hl⟩ := h
  refine ⟨_, pe_lst et, fun σ G H ε s Q hp => ?_⟩
  refine q σ G H ε s _ ?_
  cases e : g ε with
  | stuck => rw [e] at hp; exact hp
  | err c => rw [e] at hp; exact hp
  | ok p =>
    rw [e] at hp
    intro vs G' H' s' st r
    refine ⟨by rw [← r.length, hl _ _ e]; exact Nat.le_of_lt (small1000 hn), fun a na => ?_⟩
    obtain ⟨s2, st2, ga, no⟩ := s'.newH (o := .lst vs) na
    exact hp a vs G' _ s2 (st.trans s'.sub st2) ga upd_same r (st.hs a na) no
@[reducible, simp] def eTup (g : Ev → Res (List D × Ev)) : Ev → Res (D × Ev) := fun ε => (g ε).bind fun p => .ok (.tup p.1, p.2)
theorem pv_tup {x1} (h : PA' M W X es g) (hn : es.length ≤ 1000 := by decide) : PV M W X (.Tuple es x1 pos) (eTup g) := by
  obtain ⟨⟨t, et, q⟩, hl⟩ := h
  refine ⟨_, pe_tup et, fun σ G H ε s Q hp => ?_⟩
  refine q σ G H ε s _ ?_
  simp only [eTup] at hp
  cases e : g ε with
  | stuck => rw [e] at hp; exact hp
  | err c => rw [e] at hp; exact hp
  | ok p =>
    rw [e] at hp
    intro vs G' H' s' st r
    refine ⟨by rw [← r.length, hl _ _ e]; exact Nat.le_of_lt (small1000 hn), fun a na => ?_⟩
    obtain ⟨s2, st2⟩ := s'.new (o := .tup vs) na (fun ps z => by cases z)
    refine hp (.ref a) _ _ s2 (st.trans s'.sub st2) (rp_tup.mpr ⟨a, vs, rfl, .inl (.inl upd_same), r.mono st2.gg⟩)
end

/-! ### what is there now: a value, its list read from the heap -/
def RpH (F : Fx) (G H : Hp) : D → V → Prop
  | .lst ds, v => ∃ a vs, v = .ref a ∧ H a = some (.lst vs) ∧ RpL F G ds vs
  | d, v => Rp F G d v
theorem rpH_int {F : Fx} {G H : Hp} {i : Int} {v : V} : RpH F G H (.int i) v ↔ v = .int i := by simp only [RpH, Rp]
theorem rpH_bl {F : Fx} {G H : Hp} {i : Bool} {v : V} : RpH F G H (.bl i) v ↔ v = .bl i := by simp only [RpH, Rp]
theorem rpH_str {F : Fx} {G H : Hp} {i : Str} {v : V} : RpH F G H (.str i) v ↔ v = .str i := by simp only [RpH, Rp]
theorem rpH_non {F : Fx} {G H : Hp} {v : V} : RpH F G H .non v ↔ v = .non := by simp only [RpH, Rp]
theorem rpH_tup {F : Fx} {G H : Hp} {ds : List D} {v : V} : RpH F G H (.tup ds) v ↔ ∃ a vs, v = .ref a ∧ SqT F.K G a vs ∧ RpL F G ds vs := by simp only [RpH, Rp]
theorem Rp.rpH {F : Fx} {G H : Hp} (sub : ∀ q o, G q = some o → H q = some o) {d : D} {v : V} (r : Rp F G d v) : RpH F G H d v := by
  cases d with
  | lst ds =>
    rw [rp_lst] at r
    obtain ⟨a, vs, e, g, l⟩ := r
    exact ⟨a, vs, e, sub _ _ g, l⟩
  | _ => exact r
def OpH (M : Fr) (W : WX) (r : R2) (op : D → D → Res D) : Prop :=
  ∀ (x y : D) (v w : V) (σ : St) (G H : Hp) (ε : Ev), SR M G H σ ε → RpH M.F G H x v → RpH M.F G H y w → ∀ Q : VK,
    Post M W σ G H ε (Rp M.F) ((op x y).bind fun d => .ok (d, ε)) Q → r v w H Q
theorem OpH.opT {M : Fr} {W : WX} {r : R2} {op : D → D → Res D} (h : OpH M W r op) : OpT M W r op := fun x y v w σ G H ε s rx ry Q hp => h x y v w σ G H ε s (rx.rpH s.sub) (ry.rpH s.sub) Q hp
/-- a new list out of two values -/
def OpN (M : Fr) (W : WX) (r : R2) (op : D → D → Res (List D)) : Prop :=
  ∀ (x y : D) (v w : V) (σ : St) (G H : Hp) (ε : Ev), SR M G H σ ε → RpH M.F G H x v → RpH M.F G H y w → ∀ Q : VK,
    PostN M W σ G H ε ((op x y).bind fun d => .ok (d, ε)) Q → r v w H Q
@[reducible] def eOpN (op : D → D → Res (List D)) (fa fb : Ev → Res (D × Ev)) : Ev → Res (List D × Ev) := fun ε =>
  (fa ε).bind fun p => (fb p.2).bind fun q => (op p.1 q.1).bind fun d => .ok (d, q.2)
theorem trN_op {M : Fr} {W : WX} {r : R2} {op : D → D → Res (List D)} {ta tb : TE} {fa fb : Ev → Res (D × Ev)} (ho : OpN M W r op) (ha : Tr M W (Rp M.F) ta fa) (hb : Tr M W (Rp M.F) tb fb) : TrN M W (tOp r ta tb) (eOpN op fa fb) := by
  intro σ G H ε s Q hp
  refine ha σ G H ε s _ ?_
  simp only [eOpN] at hp
  cases e : fa ε with
  | stuck => rw [e] at hp; exact hp
  | err c => rw [e] at hp; exact hp
  | ok p =>
    rw [e] at hp
    intro v G1 H1 s1 st1 rx
    have hp1 : PostN M W σ G1 H1 p.2 ((fb p.2).bind fun q => (op p.1 q.1).bind fun d => .ok (d, q.2)) Q := PostN.shift s1 st1 hp
    refine hb σ G1 H1 p.2 s1 _ ?_
    cases e2 : fb p.2 with
    | stuck => rw [e2] at hp1; exact hp1
    | err c => rw [e2] at hp1; exact hp1
    | ok q =>
      rw [e2] at hp1
      intro w G2 H2 s2 st2 ry
      exact ho p.1 q.1 v w σ G2 H2 q.2 s2 ((rx.mono st2.gg).rpH s2.sub) (ry.rpH s2.sub) Q (hp1.shift s2 st2)

/-! ### subscripts -/
theorem RpL.atI {F : Fx} {G : Hp} {ds : List D} {vs : List V} (r : RpL F G ds vs) {i : Int} {d : D} (e : atI ds i = some d) : ∃ v, atI vs i = some v ∧ Rp F G d v := by
  unfold L2.atI at e ⊢
  rw [← r.length]
  cases q : ixN ds.length i with
  | none => rw [q] at e; cases e
  | some j =>
    rw [q] at e
    exact r.get e
@[simp] def dIx : D → D → Res D
  | .lst ds, .int i => match atI ds i with
    | some d => .ok d
    | none => .stuck
  | .tup ds, .int i => match atI ds i with
    | some d => .ok d
    | none => .stuck
  | .str z, .int i => if z.length ≤ 1000000 then (match atI z.cps.toList i with
    | some c => .ok (.str ⟨#[c]⟩)
    | none => .stuck) else .stuck
  | _, _ => .stuck
theorem line_big {n : Nat} (h : n ≤ 1000000) : n ≤ sizeLine := by rw [sizeLine_eq]; omega
theorem opH_ix {M : Fr} {W : WX} : OpH M W (rIx M.F.K) dIx := by
  intro x y v w σ G H ε s rx ry Q hp
  cases y with
  | int i =>
    have ry' := rpH_int.mp ry
    subst ry'
    cases x with
    | lst ds =>
      obtain ⟨a, vs, rfl, ha, l⟩ := rx
      simp only [dIx] at hp
      cases e : atI ds i with
      | none => rw [e] at hp; exact hp.elim
      | some d =>
        rw [e] at hp
        obtain ⟨u, e2, r⟩ := l.atI e
        exact .inl ⟨a, vs, i, u, rfl, rfl, SqL.of ha, e2, hp u G H s (Step.refl ..) r⟩
    | tup ds =>
      obtain ⟨a, vs, rfl, ha, l⟩ := rpH_tup.mp rx
      simp only [dIx] at hp
      cases e : atI ds i with
      | none => rw [e] at hp; exact hp.elim
      | some d =>
        rw [e] at hp
        obtain ⟨u, e2, r⟩ := l.atI e
        exact .inr (.inl ⟨a, vs, i, u, rfl, rfl, sqT_mono s.sub ha, e2, hp u G H s (Step.refl ..) r⟩)
    | str z =>
      have rx' := rpH_str.mp rx
      subst rx'
      simp only [dIx] at hp
      split at hp
      · rename_i hz
        cases e : atI z.cps.toList i with
        | none => rw [e] at hp; exact hp.elim
        | some c =>
          rw [e] at hp
          exact .inr (.inr ⟨z, i, c, rfl, rfl, line_big hz, e, hp _ G H s (Step.refl ..) (rp_str.mpr rfl)⟩)
      · exact hp.elim
    | _ => exact hp.elim
  | _ => cases x <;> exact hp.elim

section
variable {M : Fr} {W : WX} {X : Cx} {k : Nat} {a b e : Expr} {es rest : List Expr} {fa fb f : Ev → Res (D × Ev)} {g : Ev → Res (List D × Ev)} {pos : Pos}
theorem pv_ix (c : CO M W k X) (ha : PV M W X a fa) (hb : PV M W X b fb) (hs : PlainIx b := by intro _ _; rfl) : PV M W X (.Subscript a b pos) (eOp dIx fa fb) := by
  obtain ⟨ta, ea, qa⟩ := ha
  obtain ⟨tb, eb, qb⟩ := hb
  refine ⟨_, pe_ix (r := rIx M.F.K) (by rw [← c.hK]; exact ix_seq) ea eb hs, tr_op opH_ix.opT qa qb⟩

/-! ### a name whose list may be owned, read where it stands -/
@[reducible, simp] def getAny (ε : Ev) (i : Nat) : Res D := match ε[i]? with
  | some (.pu d) => .ok d
  | some (.ow ds) => .ok (.lst ds)
  | _ => .stuck
theorem SR.any {G H : Hp} {σ : St} {ε : Ev} (s : SR M G H σ ε) {i : Nat} {d : D} (e : getAny ε i = .ok d) : ∃ v, σ[i]? = some (some v) ∧ RpH M.F G H d v := by
  unfold getAny at e
  split at e
  · rename_i d' e'
    cases e
    obtain ⟨v, e2, r⟩ := s.pu e'
    exact ⟨v, e2, r.rpH s.sub⟩
  · rename_i ds e'
    cases e
    obtain ⟨p, vs, e2, _, hp, r⟩ := s.ow e'
    exact ⟨.ref p, e2, p, vs, rfl, hp, r⟩
  · cases e
@[reducible, simp] def eOpV (op : D → D → Res D) (i : Nat) (fb : Ev → Res (D × Ev)) : Ev → Res (D × Ev) := fun ε =>
  (getAny ε i).bind fun _ => (fb ε).bind fun q => (getAny q.2 i).bind fun x => (op x q.1).bind fun d => .ok (d, q.2)
theorem tr_opV {r : R2} {op : D → D → Res D} {i : Nat} {tb : TE} (ho : OpH M W r op) (hb : Tr M W (Rp M.F) tb fb) : Tr M W (Rp M.F) (tOp r (tVar i) tb) (eOpV op i fb) := by
  intro σ G H ε s Q hp
  simp only [eOpV] at hp
  cases e0 : getAny ε i with
  | stuck => rw [e0] at hp; exact hp.elim
  | err c => simp only [getAny] at e0; split at e0 <;> cases e0
  | ok x0 =>
    rw [e0] at hp
    obtain ⟨v, ev, _⟩ := s.any e0
    refine ⟨v, ev, hb σ G H ε s _ ?_⟩
    try simp only [Res.bind_ok] at hp
    cases e : fb ε with
    | stuck => rw [e] at hp; exact hp
    | err c => rw [e] at hp; exact hp
    | ok q =>
      rw [e] at hp
      intro w G1 H1 s1 st1 ry
      try simp only [Res.bind_ok] at hp
      cases e1 : getAny q.2 i with
      | stuck => rw [e1] at hp; exact hp.elim
      | err c => simp only [getAny] at e1; split at e1 <;> cases e1
      | ok x =>
        rw [e1] at hp
        obtain ⟨v', ev', rx⟩ := s1.any e1
        rw [ev] at ev'
        cases ev'
        exact ho x q.1 v w σ G1 H1 q.2 s1 rx (ry.rpH s1.sub) Q (hp.shift s1 st1)
theorem pv_ixV (c : CO M W k X) (i : Nat) {x : Str} {px : Pos} (hb : PV M W X b fb) (hs : PlainIx b := by intro _ _; rfl) (hN : X.N[i]? = some x := by rfl)
    (hv : Vis X.env.scope x := by first | exact Or.inl rfl | exact Or.inr (Or.inl rfl) | exact Or.inr (Or.inr rfl)) (hd : (x == ("__debug__" : Str)) = false := by decide) (hcd : (x == ("__classdict__" : Str)) = false := by decide) :
    PV M W X (.Subscript (.Name x px) b pos) (eOpV dIx i fb) := by
  obtain ⟨tb, eb, qb⟩ := hb
  refine ⟨_, pe_ix (r := rIx M.F.K) (by rw [← c.hK]; exact ix_seq) (pe_var hN hv hd hcd) eb hs, tr_opV opH_ix qb⟩
end

/-! ### == -/
mutual
def D.pyd : D → PyData
  | .non => .none
  | .bl b => .bool b
  | .int i => .int i
  | .str x => .str x
  | .tup ds => .tuple (D.pydL ds)
  | .lst ds => .list (D.pydL ds)
  | .fn _ => .none
  | .scr _ => .none
def D.pydL : List D → List PyData
  | [] => []
  | d :: ds => d.pyd :: D.pydL ds
end
mutual
/-- data without functions, texts of real signs, at most n deep -/
def D.okq : Nat → D → Bool
  | _, .non => true
  | _, .bl _ => true
  | _, .int _ => true
  | _, .str x => PyData.strOk x
  | 0, .tup _ => false
  | n + 1, .tup ds => D.okqL n ds
  | 0, .lst _ => false
  | n + 1, .lst ds => D.okqL n ds
  | _, .fn _ => false
  | _, .scr _ => false
def D.okqL : Nat → List D → Bool
  | _, [] => true
  | n, d :: ds => D.okq n d && D.okqL n ds
end
mutual
theorem okq_canLay : ∀ (d : D) (n : Nat), D.okq n d = true → d.pyd.canLay0 = true ∧ d.pyd.depth ≤ n
  | .non, n, _ => ⟨rfl, Nat.zero_le _⟩
  | .bl _, n, _ => ⟨rfl, Nat.zero_le _⟩
  | .int _, n, _ => ⟨rfl, Nat.zero_le _⟩
  | .str x, n, h => ⟨by simpa [D.pyd, PyData.canLay0, D.okq] using h, by simp [D.pyd, PyData.depth]⟩
  | .tup ds, 0, h => by simp [D.okq] at h
  | .tup ds, n + 1, h => by
    have q := okqL_canLay ds n (by simpa [D.okq] using h)
    exact ⟨by simpa [D.pyd, PyData.canLay0] using q.1, by simpa [D.pyd, PyData.depth] using q.2⟩
  | .lst ds, 0, h => by simp [D.okq] at h
  | .lst ds, n + 1, h => by
    have q := okqL_canLay ds n (by simpa [D.okq] using h)
    exact ⟨by simpa [D.pyd, PyData.canLay0] using q.1, by simpa [D.pyd, PyData.depth] using q.2⟩
  | .fn _, _, h => by simp [D.okq] at h
  | .scr _, _, h => by simp [D.okq] at h
theorem okqL_canLay : ∀ (ds : List D) (n : Nat), D.okqL n ds = true → PyData.canLayAll0 (D.pydL ds) = true ∧ PyData.depthAll (D.pydL ds) ≤ n
  | [], n, _ => ⟨rfl, Nat.zero_le _⟩
  | d :: ds, n, h => by
    have h' : D.okq n d = true ∧ D.okqL n ds = true := by simpa [D.okqL] using h
    have q1 := okq_canLay d n h'.1
    have q2 := okqL_canLay ds n h'.2
    refine ⟨by simp [D.pydL, PyData.canLayAll0, q1.1, q2.1], ?_⟩
    simp only [D.pydL, PyData.depthAll]
    exact Nat.max_le.mpr ⟨q1.2, q2.2⟩
end
theorem okq_shaped {d : D} {n : Nat} (h : D.okq n d = true) (hn : n ≤ 64) : SeqAt.shaped d.pyd = true := by
  obtain ⟨a, b⟩ := okq_canLay d n h
  unfold SeqAt.shaped
  rw [a, decide_eq_true (Nat.le_trans b hn)]; rfl
mutual
theorem rp_dp {F : Fx} {G H : Hp} (sub : ∀ q o, G q = some o → H q = some o) : ∀ (d : D) (n : Nat) (v : V), D.okq n d = true → Rp F G d v → Dp F.K H v d.pyd
  | .non, _, v, _, r => by rw [rp_non] at r; subst r; exact .non
  | .bl b, _, v, _, r => by rw [rp_bl] at r; subst r; exact .bl b
  | .int i, _, v, _, r => by rw [rp_int] at r; subst r; exact .int i
  | .str x, _, v, _, r => by rw [rp_str] at r; subst r; exact .str x
  | .tup ds, 0, v, h, _ => by simp [D.okq] at h
  | .tup ds, n + 1, v, h, r => by
    obtain ⟨a, vs, rfl, s, l⟩ := rp_tup.mp r
    simp only [D.pyd]
    exact .tup (sqT_mono sub s) (rpL_dp sub ds n vs (by simpa [D.okq] using h) l)
  | .lst ds, 0, v, h, _ => by simp [D.okq] at h
  | .lst ds, n + 1, v, h, r => by
    obtain ⟨a, vs, rfl, s, l⟩ := rp_lst.mp r
    simp only [D.pyd]
    exact .lst (SqL.of (sub _ _ s)) (rpL_dp sub ds n vs (by simpa [D.okq] using h) l)
  | .fn _, _, v, h, _ => by simp [D.okq] at h
  | .scr _, _, v, h, _ => by simp [D.okq] at h
theorem rpL_dp {F : Fx} {G H : Hp} (sub : ∀ q o, G q = some o → H q = some o) : ∀ (ds : List D) (n : Nat) (vs : List V), D.okqL n ds = true → RpL F G ds vs → DpAll F.K H vs (D.pydL ds)
  | [], _, vs, _, r => by rw [r.of_nil]; exact .nil
  | d :: ds, n, vs, h, r => by
    obtain ⟨v, ws, rfl, a, l⟩ := r.of_cons
    have h' : D.okq n d = true ∧ D.okqL n ds = true := by simpa [D.okqL] using h
    simp only [D.pydL]
    exact .cons (rp_dp sub d n v h'.1 a) (rpL_dp sub ds n ws h'.2 l)
end
theorem rpH_dp {F : Fx} {G H : Hp} (sub : ∀ q o, G q = some o → H q = some o) {d : D} {n : Nat} {v : V} (h : D.okq n d = true) (r : RpH F G H d v) : Dp F.K H v d.pyd := by
  cases d with
  | lst ds =>
    obtain ⟨a, vs, rfl, s, l⟩ := r
    cases n with
    | zero => simp [D.okq] at h
    | succ n =>
      simp only [D.pyd]
      exact .lst (SqL.of s) (rpL_dp sub ds n vs (by simpa [D.okq] using h) l)
  | _ => exact rp_dp sub _ n v h r
def dEqv (x y : D) : Bool := PyData.eqv x.pyd y.pyd
def dEq (x y : D) : Res D := if (D.okq 20 x && D.okq 20 y) = true then .ok (.bl (dEqv x y)) else .stuck
def dNe (x y : D) : Res D := if (D.okq 20 x && D.okq 20 y) = true then .ok (.bl (!dEqv x y)) else .stuck
theorem opH_eq {M : Fr} {W : WX} : OpH M W (rEqD M.F.K) dEq := by
  intro x y v w σ G H ε s rx ry Q hp
  simp only [dEq] at hp
  split at hp
  · rename_i h
    have h' := Bool.and_eq_true_iff.mp h
    exact ⟨_, _, rpH_dp s.sub h'.1 rx, rpH_dp s.sub h'.2 ry, okq_shaped h'.1 (by decide), okq_shaped h'.2 (by decide), hp _ G H s (Step.refl ..) (rp_bl.mpr rfl)⟩
  · exact hp.elim
theorem opH_ne {M : Fr} {W : WX} : OpH M W (rNeD M.F.K) dNe := by
  intro x y v w σ G H ε s rx ry Q hp
  simp only [dNe] at hp
  split at hp
  · rename_i h
    have h' := Bool.and_eq_true_iff.mp h
    exact ⟨_, _, rpH_dp s.sub h'.1 rx, rpH_dp s.sub h'.2 ry, okq_shaped h'.1 (by decide), okq_shaped h'.2 (by decide), hp _ G H s (Step.refl ..) (rp_bl.mpr rfl)⟩
  · exact hp.elim
def dIsN : D → D → Res D
  | .non, .non => .ok (.bl true)
  | _, .non => .ok (.bl false)
  | _, _ => .stuck
def dNotN : D → D → Res D
  | .non, .non => .ok (.bl false)
  | _, .non => .ok (.bl true)
  | _, _ => .stuck
theorem rpH_non_iff {F : Fx} {G H : Hp} {d : D} {v : V} (r : RpH F G H d v) : v = .non ↔ d = .non := by
  cases d with
  | non => exact ⟨fun _ => rfl, fun _ => rpH_non.mp r⟩
  | bl b => have := rpH_bl.mp r; subst this; exact ⟨(fun e => by cases e), (fun e => by cases e)⟩
  | int b => have := rpH_int.mp r; subst this; exact ⟨(fun e => by cases e), (fun e => by cases e)⟩
  | str b => have := rpH_str.mp r; subst this; exact ⟨(fun e => by cases e), (fun e => by cases e)⟩
  | tup ds => obtain ⟨a, vs, rfl, _⟩ := rpH_tup.mp r; exact ⟨(fun e => by cases e), (fun e => by cases e)⟩
  | lst ds => obtain ⟨a, vs, rfl, _⟩ := r; exact ⟨(fun e => by cases e), (fun e => by cases e)⟩
  | scr ns => obtain ⟨a, rfl, _⟩ : ∃ a, v = .ref a ∧ SqL F.K G a (ns.map V.int) := (by simpa only [RpH, Rp] using r); exact ⟨(fun e => by cases e), (fun e => by cases e)⟩
  | fn k => have : v = .ref (F.fa k) := (by simpa only [RpH, Rp] using r); subst this; exact ⟨(fun e => by cases e), (fun e => by cases e)⟩
theorem opH_isN {M : Fr} {W : WX} : OpH M W (fun x y H Q => y = .non ∧ Q (.bl (decide (x = .non))) H) dIsN := by
  intro x y v w σ G H ε s rx ry Q hp
  cases y with
  | non =>
    refine ⟨rpH_non.mp ry, ?_⟩
    have e := rpH_non_iff rx
    by_cases h : x = .non
    · subst h
      rw [decide_eq_true (e.mpr rfl)]
      exact hp _ G H s (Step.refl ..) (rp_bl.mpr rfl)
    · rw [decide_eq_false fun z => h (e.mp z)]
      cases x <;> first | exact absurd rfl h | exact hp _ G H s (Step.refl ..) (rp_bl.mpr rfl)
  | _ => cases x <;> exact hp.elim
theorem opH_notN {M : Fr} {W : WX} : OpH M W (fun x y H Q => y = .non ∧ Q (.bl (!decide (x = .non))) H) dNotN := by
  intro x y v w σ G H ε s rx ry Q hp
  cases y with
  | non =>
    refine ⟨rpH_non.mp ry, ?_⟩
    have e := rpH_non_iff rx
    by_cases h : x = .non
    · subst h
      rw [decide_eq_true (e.mpr rfl)]
      exact hp _ G H s (Step.refl ..) (rp_bl.mpr rfl)
    · rw [decide_eq_false fun z => h (e.mp z)]
      cases x <;> first | exact absurd rfl h | exact hp _ G H s (Step.refl ..) (rp_bl.mpr rfl)
  | _ => cases x <;> exact hp.elim
section
variable {M : Fr} {W : WX} {X : Cx} {k : Nat} {a b e : Expr} {es rest : List Expr} {fa fb f : Ev → Res (D × Ev)} {g : Ev → Res (List D × Ev)} {pos : Pos}
theorem cm_eq (c : CO M W k X) : CmpR M W X .Eq dEq := ⟨_, by rw [← c.hK]; exact op_eqD c.hr.units, opH_eq.opT⟩
theorem cm_ne (c : CO M W k X) : CmpR M W X .NotEq dNe := ⟨_, by rw [← c.hK]; exact op_neD c.hr.units, opH_ne.opT⟩
theorem cm_isN : CmpR M W X .Is dIsN := ⟨_, op_isN, opH_isN.opT⟩
theorem cm_notN : CmpR M W X .IsNot dNotN := ⟨_, op_notN, opH_notN.opT⟩
/-- x == e, x != e, x a name whose list may be owned -/
theorem pb_eqV (c : CO M W k X) (i : Nat) {x : Str} {px : Pos} (hb : PV M W X b fb) (hN : X.N[i]? = some x := by rfl)
    (hv : Vis X.env.scope x := by first | exact Or.inl rfl | exact Or.inr (Or.inl rfl) | exact Or.inr (Or.inr rfl)) (hd : (x == ("__debug__" : Str)) = false := by decide) (hcd : (x == ("__classdict__" : Str)) = false := by decide) :
    PB M W X (.Compare (.Name x px) [.Eq] [b] pos) (bOf (eOpV dEq i fb)) := by
  obtain ⟨tb, eb, qb⟩ := hb
  refine ⟨_, pt_cmpR (r := rEqD M.F.K) (by rw [← c.hK]; exact op_eqD c.hr.units) (pe_var hN hv hd hcd) eb (nomark _), tr_test (tr_opV opH_eq qb)⟩
theorem pb_neV (c : CO M W k X) (i : Nat) {x : Str} {px : Pos} (hb : PV M W X b fb) (hN : X.N[i]? = some x := by rfl)
    (hv : Vis X.env.scope x := by first | exact Or.inl rfl | exact Or.inr (Or.inl rfl) | exact Or.inr (Or.inr rfl)) (hd : (x == ("__debug__" : Str)) = false := by decide) (hcd : (x == ("__classdict__" : Str)) = false := by decide) :
    PB M W X (.Compare (.Name x px) [.NotEq] [b] pos) (bOf (eOpV dNe i fb)) := by
  obtain ⟨tb, eb, qb⟩ := hb
  refine ⟨_, pt_cmpR (r := rNeD M.F.K) (by rw [← c.hK]; exact op_neD c.hr.units) (pe_var hN hv hd hcd) eb (nomark _), tr_test (tr_opV opH_ne qb)⟩
end
end PL
/-! PL, part d: + and *, slices, calls of built-ins. -/
namespace PL
open PySem PySem.Spec PyProof.Rows L2

theorem post_ok {α β : Type} {M : Fr} {W : WX} {σ : St} {G H : Hp} {ε : Ev} {R : Hp → β → α → Prop} {b : β} {Q : α → Hp → Prop} (hp : Post M W σ G H ε R (.ok (b, ε)) Q) (s : SR M G H σ ε) {a : α} (r : R G b a) : Q a H :=
  hp a G H s (Step.refl ..) r
/-- the answer is a new object -/
theorem post_new {M : Fr} {W : WX} {σ : St} {G H : Hp} {ε : Ev} {d : D} {Q : VK} (hp : Post M W σ G H ε (Rp M.F) (.ok (d, ε)) Q) (s : SR M G H σ ε) {p : Addr} {o : HO} (hn : H p = none) (ho : ∀ ps, o ≠ .tbl ps)
    (r : Rp M.F (upd G p o) d (.ref p)) : Q (.ref p) (upd H p o) := by
  obtain ⟨s2, st2⟩ := s.new (o := o) hn ho
  exact hp _ _ _ s2 st2 r
theorem postN_new {M : Fr} {W : WX} {σ : St} {G H : Hp} {ε : Ev} {ds : List D} {vs : List V} {Q : VK} (hp : PostN M W σ G H ε (.ok (ds, ε)) Q) (s : SR M G H σ ε) {p : Addr} (hn : H p = none) (r : RpL M.F G ds vs) : Q (.ref p) (upd H p (.lst vs)) := by
  obtain ⟨s2, st2, ga, no⟩ := s.newH (o := .lst vs) hn
  exact hp p vs G _ s2 st2 ga upd_same r hn no
theorem up_mono {G : Hp} {p : Addr} {o : HO} (hn : G p = none) : ∀ q u, G q = some u → upd G p o q = some u := fun q u h => by rw [upd_ne (ne_of_none h hn)]; exact h
theorem SR.gnone {M : Fr} {G H : Hp} {σ : St} {ε : Ev} (s : SR M G H σ ε) {p : Addr} (hn : H p = none) : G p = none := by
  cases q : G p with
  | none => rfl
  | some u => rw [s.sub p u q] at hn; cases hn

/-! ### + -/
def dCat : D → D → Res (List D)
  | .lst a, .lst b => if a.length + b.length ≤ 1000000 then .ok (a ++ b) else .stuck
  | _, _ => .stuck
@[simp] def dAdd : D → D → Res D
  | .int i, .int j => .ok (.int (i + j))
  | .str x, .str y => if x.length + y.length ≤ 1000000 then .ok (.str (x ++ y)) else .stuck
  | .tup a, .tup b => if a.length + b.length ≤ 1000000 then .ok (.tup (a ++ b)) else .stuck
  | .lst a, .lst b => (dCat (.lst a) (.lst b)).bind fun c => .ok (.lst c)
  | _, _ => .stuck
def rAddAll (K : PySem.W.Frag) : R2 := fun x y H Q => (∃ i j, x = .int i ∧ y = .int j ∧ Q (.int (i + j)) H) ∨ (∃ i j, x = .str i ∧ y = .str j ∧ i.length + j.length ≤ sizeLine ∧ Q (.str (i ++ j)) H) ∨ rCatA K x y H Q ∨ rCat x y H Q
theorem op_addAll {X : Cx} : OpR X (binaryOp .Add) (rAddAll X.K) := (op_add).or ((op_add_str).or ((op_catA).or op_cat))
theorem opN_cat {M : Fr} {W : WX} : OpN M W (rAddAll M.F.K) dCat := by
  intro x y v w σ G H ε s rx ry Q hp
  cases x with
  | lst a =>
    cases y with
    | lst b =>
      obtain ⟨p, vs, rfl, hv, lv⟩ := rx
      obtain ⟨q, ws, rfl, hw, lw⟩ := ry
      simp only [dCat] at hp
      split at hp
      · rename_i hl
        refine .inr (.inr (.inr ⟨p, q, vs, ws, rfl, rfl, hv, hw, by rw [← lv.length, ← lw.length]; exact line_big hl, fun r hr => postN_new hp s hr (lv.append lw)⟩))
      · exact hp.elim
    | _ => exact hp.elim
  | _ => exact hp.elim
theorem opH_add {M : Fr} {W : WX} : OpH M W (rAddAll M.F.K) dAdd := by
  intro x y v w σ G H ε s rx ry Q hp
  cases x with
  | int i =>
    cases y with
    | int j =>
      rw [rpH_int] at rx ry
      subst rx ry
      exact .inl ⟨i, j, rfl, rfl, post_ok hp s (rp_int.mpr rfl)⟩
    | _ => exact hp.elim
  | str i =>
    cases y with
    | str j =>
      rw [rpH_str] at rx ry
      subst rx ry
      simp only [dAdd] at hp
      split at hp
      · rename_i hl
        exact .inr (.inl ⟨i, j, rfl, rfl, line_big hl, post_ok hp s (rp_str.mpr rfl)⟩)
      · exact hp.elim
    | _ => exact hp.elim
  | tup a =>
    cases y with
    | tup b =>
      obtain ⟨p, vs, rfl, hv, lv⟩ := rpH_tup.mp rx
      obtain ⟨q, ws, rfl, hw, lw⟩ := rpH_tup.mp ry
      simp only [dAdd] at hp
      split at hp
      · rename_i hl
        have nilOf : ∀ {ds : List D} {us : List V}, RpL M.F G ds us → us = [] → ds = [] := fun {ds us} l e => by
          have := l.length
          rw [e] at this
          exact List.eq_nil_of_length_eq_zero this
        refine .inr (.inr (.inl ⟨p, q, vs, ws, rfl, rfl, sqT_mono s.sub hv, sqT_mono s.sub hw, ?_, fun e => ?_, fun _ e => ?_, fun _ _ r hr => ?_⟩))
        · rw [← lv.length, ← lw.length]; exact line_big hl
        · have ea := nilOf lv e
          subst ea
          exact post_ok hp s (rp_tup.mpr ⟨q, ws, rfl, hw, lw⟩)
        · have eb := nilOf lw e
          subst eb
          rw [List.append_nil] at hp
          exact post_ok hp s (rp_tup.mpr ⟨p, vs, rfl, hv, lv⟩)
        · refine post_new hp s hr (fun ps z => by cases z) (rp_tup.mpr ⟨r, _, rfl, .inl (.inl upd_same), ?_⟩)
          exact (lv.append lw).mono (up_mono (s.gnone hr))
      · exact hp.elim
    | _ => exact hp.elim
  | lst a =>
    cases y with
    | lst b =>
      refine opN_cat (W := W) _ _ v w σ G H ε s rx ry Q ?_
      simp only [dAdd] at hp
      cases e : dCat (.lst a) (.lst b) with
      | stuck => rw [e] at hp; exact hp
      | err c => rw [e] at hp; exact hp
      | ok c =>
        rw [e] at hp
        intro p vs G' H' s' st n hv r nh no
        have mono := up_mono (o := .lst vs) n
        refine hp (.ref p) (upd G' p (.lst vs)) H' (s'.freeze n hv no) ⟨fun q o h => mono q o (st.gg q o h), st.hh, st.hs, fun q o h => ?_, st.oo⟩ (rp_lst.mpr ⟨p, vs, rfl, upd_same, r.mono mono⟩)
        unfold upd at h
        split at h
        · rename_i e; subst e; exact .inr (.inl nh)
        · exact st.gn q o h
    | _ => exact hp.elim
  | _ => cases y <;> exact hp.elim

/-! ### * -/
section
variable {prog : Program} {w : World} {A : Around} {E : Value → Shared → Prop} {s : Shared}
theorem tup_mul_same (l : Addr) (items : Array Value) (n : Nat) (dd : Option Addr) (sl : Array (Option Value)) (x : Int) (u : Tok) (c0 : (decide (x < -(2 ^ 63)) || decide (x ≥ 2 ^ 63)) = false) (c1 : (items.isEmpty || x == 1) = true) :
    Meets (Builtin.«tuple.__mul__» ⟨[.ref l, .int x u], []⟩) (fun _ R s => s.heap.get? l = some { cls := .type "tuple", dict := dd, data := .seq items n, slots := sl } ∧ R (.ok (.ret (Value.ref l))) s) :=
  .of_wp fun prog w A R s h => by
    obtain ⟨hp, g, d, tk, os⟩ := s; obtain ⟨hl, h⟩ := h; have f1 := AutoSeq1.idx_int; wp_walk using wpAny_loadPart' hl
    repeat (first
      | (refine wpAny_ite_false (decide_eq_false (by rw [c0]; exact Bool.false_ne_true)) ?_; wp_walk using wpAny_loadPart' hl)
      | (refine wpAny_ite_true (decide_eq_true c1) ?_; wp_walk using wpAny_loadPart' hl))
    exact ⟨_, rfl, h⟩
theorem tup_mul_none (l : Addr) (items : Array Value) (n : Nat) (dd : Option Addr) (sl : Array (Option Value)) (x : Int) (u : Tok) (c0 : (decide (x < -(2 ^ 63)) || decide (x ≥ 2 ^ 63)) = false) (c1 : (items.isEmpty || x == 1) = false) (c2 : (decide (x ≤ 0) || items.isEmpty) = true) :
    Meets (Builtin.«tuple.__mul__» ⟨[.ref l, .int x u], []⟩) (fun _ R s => s.heap.get? l = some { cls := .type "tuple", dict := dd, data := .seq items n, slots := sl } ∧
      R (.ok (.ret (Value.ref s.heap.objs.size))) { s with heap := s.heap.push { cls := Value.type "tuple", data := Data.seq #[] }, toks := s.toks }) :=
  .of_wp fun prog w A R s h => by
    obtain ⟨hp, g, d, tk, os⟩ := s; obtain ⟨hl, h⟩ := h; have f1 := AutoSeq1.idx_int; wp_walk using wpAny_loadPart' hl
    repeat (first
      | (refine wpAny_ite_false (decide_eq_false (by rw [c0]; exact Bool.false_ne_true)) ?_; wp_walk using wpAny_loadPart' hl)
      | (refine wpAny_ite_false (decide_eq_false (by rw [c1]; exact Bool.false_ne_true)) ?_; wp_walk using wpAny_loadPart' hl)
      | (refine wpAny_ite_true (decide_eq_true c2) ?_; wp_walk using wpAny_loadPart' hl))
    exact ⟨_, rfl, h⟩
end
/-- t * k: t itself, or an empty new tuple -/
def rRep01 (K : PySem.W.Frag) : R2 := fun x y H Q => ∃ l k xs, x = .ref l ∧ y = .int k ∧ SqT K H l xs ∧ -1000 ≤ k ∧ k ≤ 1000 ∧ ((xs = [] ∨ k = 1) ∧ Q (.ref l) H ∨ (xs ≠ [] ∧ k ≤ 0) ∧ ∀ p, H p = none → Q (.ref p) (upd H p (.tup [])))
theorem op_rep01 {X : Cx} : OpR X (binaryOp .Mult) (rRep01 X.K) := by
  intro pins s σ H x y v u Q I rx ry h
  obtain ⟨l, k, xs, rfl, rfl, hT, h1, h2, h3⟩ := h
  cases rx
  obtain ⟨t, rfl⟩ := ry
  obtain ⟨its, r, ⟨⟨cls, dd, data, sl⟩, ho, hc, n, hd⟩, hs⟩ := I.tuple hT
  simp only at hc hd
  subst hc hd
  have c0 : (decide (k < -(2 ^ 63)) || decide (k ≥ 2 ^ 63)) = false := by rw [decide_eq_false (by omega), decide_eq_false (by omega)] <;> rfl
  have he : its = [] ↔ xs = [] := r.nil_iff
  rcases h3 with ⟨h3, q⟩ | ⟨⟨h3, h4⟩, q⟩
  · have c1 : (its.toArray.isEmpty || k == 1) = true := by
      rcases h3 with z | z
      · rw [he.mpr z]; rfl
      · rw [z]; simp
    exact wpAny_binaryOp_repeat_ref (T := "tuple") (U := "int") (by decide) ⟨_, ho, rfl⟩ (fun s' => typeIs_int s' k t) noFill_tuple_mul F.fills_int_mul F.slot_int_rmul repeat_tuple F.slot_int_index.lookup (call_meets F.slot_int_rmul (typeIs_int s k t) F.entry_int_rmul (F.args_int_rmul_2 _ _) (int_rmul_tuple k t l its.toArray n dd sl)
      ⟨ho, rfl, ⟨_, ho, rfl⟩, call_meets F.slot_tuple_mul ⟨_, ho, rfl⟩ F.entry_tuple_mul (F.args_tuple_mul_2 _ _) (tup_mul_same l its.toArray n dd sl k t c0 c1) ⟨ho, ⟨.ref l, H, I, rfl, q⟩⟩⟩)
  · have hn : its.toArray.isEmpty = false := by
      cases its with
      | nil => exact absurd (he.mp rfl) h3
      | cons a b => rfl
    have c1 : (its.toArray.isEmpty || k == 1) = false := by rw [hn, Bool.false_or]; exact beq_eq_false_iff_ne.mpr (by omega)
    have c2 : (decide (k ≤ 0) || its.toArray.isEmpty) = true := by rw [decide_eq_true h4]; rfl
    refine wpAny_binaryOp_repeat_ref (T := "tuple") (U := "int") (by decide) ⟨_, ho, rfl⟩ (fun s' => typeIs_int s' k t) noFill_tuple_mul F.fills_int_mul F.slot_int_rmul repeat_tuple F.slot_int_index.lookup (call_meets F.slot_int_rmul (typeIs_int s k t) F.entry_int_rmul (F.args_int_rmul_2 _ _) (int_rmul_tuple k t l its.toArray n dd sl)
      ⟨ho, rfl, ⟨_, ho, rfl⟩, call_meets F.slot_tuple_mul ⟨_, ho, rfl⟩ F.entry_tuple_mul (F.args_tuple_mul_2 _ _) (tup_mul_none l its.toArray n dd sl k t c0 c1 c2) ⟨ho, ?_⟩⟩)
    refine ⟨.ref s.heap.objs.size, _, I.laid (t' := s.toks) (o := .tup []) (fun b ob q => Heap.get?_push_of_some _ q) (Nat.le_refl _) ⟨Nat.zero_le _, [], .nil, IsTup.new _ _⟩, rfl, q _ (I.hok.fresh (Nat.le_refl _))⟩
def dRep : D → D → Res (List D)
  | .lst a, .int k => if k ≤ 1000 ∧ -1000 ≤ k ∧ a.length ≤ 1000 then .ok ((List.replicate k.toNat a).flatten) else .stuck
  | _, _ => .stuck
def dMul : D → D → Res D
  | .int i, .int j => if mulOk i j then .ok (.int (i * j)) else .stuck
  | .tup a, .int k => if k ≤ 1000 ∧ -1000 ≤ k ∧ a.length ≤ 1000 then .ok (.tup ((List.replicate k.toNat a).flatten)) else .stuck
  | .lst a, .int k => (dRep (.lst a) (.int k)).bind fun c => .ok (.lst c)
  | _, _ => .stuck
def rMulAll (K : PySem.W.Frag) : R2 := fun x y H Q => rI (fun i j => mulOk i j = true) (fun i j => .int (i * j)) x y H Q ∨ rRepT K x y H Q ∨ rRep x y H Q ∨ rRep01 K x y H Q
theorem mulOk_ok {i j : Int} (h : mulOk i j = true) : IntMulOk i j := by
  have b : ∀ x : Int, Builtin.Int.intBits x ≤ x.natAbs.log2 + 1 := fun x => by
    unfold Builtin.Int.intBits
    split <;> omega
  have h1 := b i
  have h2 := b j
  simp only [mulOk, Bool.or_eq_true, decide_eq_true_eq] at h
  rcases h with (h | h) | h
  · have el : bitsLine = 134217728 := by decide
    unfold IntMulOk
    intro z
    rw [Bool.and_eq_true] at z
    have z2 := z.2
    unfold Builtin.Int.intTooBig at z2
    have z3 := of_decide_eq_true z2
    rw [el] at z3
    omega
  · exact IntMulOk.of_left (by omega)
  · exact IntMulOk.of_right (by omega)
theorem op_mulX {X : Cx} : OpR X (binaryOp .Mult) (rI (fun i j => mulOk i j = true) fun i j => .int (i * j)) := opI fun _ _ _ _ _ _ _ hc q => mul_int q (mulOk_ok hc)
theorem op_mulAll {X : Cx} : OpR X (binaryOp .Mult) (rMulAll X.K) := (op_mulX).or ((op_repT).or (op_rep.or op_rep01))
theorem opN_rep {M : Fr} {W : WX} : OpN M W (rMulAll M.F.K) dRep := by
  intro x y v w σ G H ε s rx ry Q hp
  cases x with
  | lst a =>
    cases y with
    | int k =>
      obtain ⟨p, vs, rfl, hv, lv⟩ := rx
      rw [rpH_int] at ry
      subst ry
      simp only [dRep] at hp
      split at hp
      · rename_i hl
        refine .inr (.inr (.inl ⟨p, k, vs, rfl, rfl, hv, by omega, by omega, ?_, fun r hr => postN_new hp s hr (lv.rep _)⟩))
        rw [← lv.length]
        refine line_big ?_
        have : a.length * k.toNat ≤ 1000 * 1000 := Nat.mul_le_mul hl.2.2 (by omega)
        omega
      · exact hp.elim
    | _ => exact hp.elim
  | _ => exact hp.elim
theorem opH_mul {M : Fr} {W : WX} : OpH M W (rMulAll M.F.K) dMul := by
  intro x y v w σ G H ε s rx ry Q hp
  cases x with
  | int i =>
    cases y with
    | int j =>
      rw [rpH_int] at rx ry
      subst rx ry
      simp only [dMul] at hp
      split at hp
      · rename_i hl
        exact .inl ⟨i, j, rfl, rfl, hl, post_ok hp s (rp_int.mpr rfl)⟩
      · exact hp.elim
    | _ => exact hp.elim
  | tup a =>
    cases y with
    | int k =>
      obtain ⟨p, vs, rfl, hv, lv⟩ := rpH_tup.mp rx
      rw [rpH_int] at ry
      subst ry
      simp only [dMul] at hp
      split at hp
      · rename_i hl
        by_cases hv0 : vs = []
        · have ea : a = [] := by
            have := lv.length
            rw [hv0] at this
            exact List.eq_nil_of_length_eq_zero this
          subst ea
          refine .inr (.inr (.inr ⟨p, k, vs, rfl, rfl, sqT_mono s.sub hv, by omega, by omega, .inl ⟨.inl hv0, ?_⟩⟩))
          have e0 : (List.replicate k.toNat ([] : List D)).flatten = [] := by simp
          rw [e0] at hp
          exact post_ok hp s (rp_tup.mpr ⟨p, vs, rfl, hv, lv⟩)
        · by_cases hk1 : k = 1
          · subst hk1
            refine .inr (.inr (.inr ⟨p, 1, vs, rfl, rfl, sqT_mono s.sub hv, by omega, by omega, .inl ⟨.inr rfl, ?_⟩⟩))
            have e0 : (List.replicate (1 : Int).toNat a).flatten = a := by simp
            rw [e0] at hp
            exact post_ok hp s (rp_tup.mpr ⟨p, vs, rfl, hv, lv⟩)
          · by_cases hk0 : k ≤ 0
            · refine .inr (.inr (.inr ⟨p, k, vs, rfl, rfl, sqT_mono s.sub hv, by omega, by omega, .inr ⟨⟨hv0, hk0⟩, fun r hr => ?_⟩⟩))
              have e0 : (List.replicate k.toNat a).flatten = [] := by rw [show k.toNat = 0 by omega]; rfl
              rw [e0] at hp
              exact post_new hp s hr (fun ps z => by cases z) (rp_tup.mpr ⟨r, _, rfl, .inl (.inl upd_same), RpL.nil⟩)
            · refine .inr (.inl ⟨p, k, vs, rfl, rfl, sqT_mono s.sub hv, hv0, by omega, by omega, by rw [← lv.length]; omega, fun r hr => ?_⟩)
              refine post_new hp s hr (fun ps z => by cases z) (rp_tup.mpr ⟨r, _, rfl, .inl (.inl upd_same), ?_⟩)
              exact (lv.rep _).mono (up_mono (s.gnone hr))
      · exact hp.elim
    | _ => exact hp.elim
  | lst a =>
    cases y with
    | int k =>
      refine opN_rep (W := W) _ _ v w σ G H ε s rx ry Q ?_
      simp only [dMul] at hp
      cases e : dRep (.lst a) (.int k) with
      | stuck => rw [e] at hp; exact hp
      | err c => rw [e] at hp; exact hp
      | ok c =>
        rw [e] at hp
        intro p vs G' H' s' st n hv r nh no
        have mono := up_mono (o := .lst vs) n
        refine hp (.ref p) (upd G' p (.lst vs)) H' (s'.freeze n hv no) ⟨fun q o h => mono q o (st.gg q o h), st.hh, st.hs, fun q o h => ?_, st.oo⟩ (rp_lst.mpr ⟨p, vs, rfl, upd_same, r.mono mono⟩)
        unfold upd at h
        split at h
        · rename_i e; subst e; exact .inr (.inl nh)
        · exact st.gn q o h
    | _ => exact hp.elim
  | _ => cases y <;> exact hp.elim

section
variable {M : Fr} {W : WX} {X : Cx} {k : Nat} {a b e : Expr} {es rest : List Expr} {fa fb f : Ev → Res (D × Ev)} {g : Ev → Res (List D × Ev)} {pos : Pos}
theorem pv_add (c : CO M W k X) (ha : PV M W X a fa) (hb : PV M W X b fb) : PV M W X (.BinOp a .Add b pos) (eOp dAdd fa fb) := by
  obtain ⟨ta, ea, qa⟩ := ha
  obtain ⟨tb, eb, qb⟩ := hb
  exact ⟨_, pe_op (r := rAddAll M.F.K) (by rw [← c.hK]; exact op_addAll) ea eb, tr_op opH_add.opT qa qb⟩
theorem pn_add (c : CO M W k X) (ha : PV M W X a fa) (hb : PV M W X b fb) : PN M W X (.BinOp a .Add b pos) (eOpN dCat fa fb) := by
  obtain ⟨ta, ea, qa⟩ := ha
  obtain ⟨tb, eb, qb⟩ := hb
  exact ⟨_, pe_op (r := rAddAll M.F.K) (by rw [← c.hK]; exact op_addAll) ea eb, trN_op opN_cat qa qb⟩
theorem pv_mul (c : CO M W k X) (ha : PV M W X a fa) (hb : PV M W X b fb) : PV M W X (.BinOp a .Mult b pos) (eOp dMul fa fb) := by
  obtain ⟨ta, ea, qa⟩ := ha
  obtain ⟨tb, eb, qb⟩ := hb
  exact ⟨_, pe_op (r := rMulAll M.F.K) (by rw [← c.hK]; exact op_mulAll) ea eb, tr_op opH_mul.opT qa qb⟩
theorem pn_mul (c : CO M W k X) (ha : PV M W X a fa) (hb : PV M W X b fb) : PN M W X (.BinOp a .Mult b pos) (eOpN dRep fa fb) := by
  obtain ⟨ta, ea, qa⟩ := ha
  obtain ⟨tb, eb, qb⟩ := hb
  exact ⟨_, pe_op (r := rMulAll M.F.K) (by rw [← c.hK]; exact op_mulAll) ea eb, trN_op opN_rep qa qb⟩
end

/-! ### calls by values -/
def CallT (M : Fr) (W : WX) (r : List V → Hp → VK → Prop) (g : List D → Res D) : Prop :=
  ∀ (ds : List D) (vs : List V) (σ : St) (G H : Hp) (ε : Ev), SR M G H σ ε → RpL M.F G ds vs → ∀ Q : VK, Post M W σ G H ε (Rp M.F) ((g ds).bind fun d => .ok (d, ε)) Q → r vs H Q
def CallN (M : Fr) (W : WX) (r : List V → Hp → VK → Prop) (g : List D → Res (List D)) : Prop :=
  ∀ (ds : List D) (vs : List V) (σ : St) (G H : Hp) (ε : Ev), SR M G H σ ε → RpL M.F G ds vs → ∀ Q : VK, PostN M W σ G H ε ((g ds).bind fun d => .ok (d, ε)) Q → r vs H Q
@[reducible, simp] def eCB (g : List D → Res D) (fs : Ev → Res (List D × Ev)) : Ev → Res (D × Ev) := fun ε => (fs ε).bind fun p => (g p.1).bind fun d => .ok (d, p.2)
@[reducible] def eCN (g : List D → Res (List D)) (fs : Ev → Res (List D × Ev)) : Ev → Res (List D × Ev) := fun ε => (fs ε).bind fun p => (g p.1).bind fun d => .ok (d, p.2)
theorem tr_cb {M : Fr} {W : WX} {r : List V → Hp → VK → Prop} {g : List D → Res D} {t : TA} {fs : Ev → Res (List D × Ev)} (h : CallT M W r g) (ht : Tr M W (RpL M.F) t fs) : Tr M W (Rp M.F) (tCB r t) (eCB g fs) := by
  refine Tr.bind (f2 := fun ds ε => (g ds).bind fun d => .ok (d, ε)) (t2 := fun vs σ H1 Q => r vs H1 Q) ht ?_
  intro ds vs σ G H ε s rs Q hp
  exact h ds vs σ G H ε s rs Q hp
theorem tr_cn {M : Fr} {W : WX} {r : List V → Hp → VK → Prop} {g : List D → Res (List D)} {t : TA} {fs : Ev → Res (List D × Ev)} (h : CallN M W r g) (ht : Tr M W (RpL M.F) t fs) : TrN M W (tCB r t) (eCN g fs) := by
  intro σ G H ε s Q hp
  refine ht σ G H ε s _ ?_
  simp only [eCN] at hp
  cases e : fs ε with
  | stuck => rw [e] at hp; exact hp
  | err c => rw [e] at hp; exact hp
  | ok p =>
    rw [e] at hp
    intro vs G1 H1 s1 st1 rs
    exact h p.1 vs σ G1 H1 p.2 s1 rs Q (PostN.shift s1 st1 hp)

def fAbs : List D → Res D
  | [.int i] => .ok (.int (if i < 0 then -i else i))
  | _ => .stuck
def fInt : List D → Res D
  | [.int i] => .ok (.int i)
  | [.bl k] => .ok (.int (if k then 1 else 0))
  | _ => .stuck
@[simp] def fMax2 : List D → Res D
  | [.int i, .int j] => .ok (.int (if j > i then j else i))
  | _ => .stuck
@[simp] def fMin2 : List D → Res D
  | [.int i, .int j] => .ok (.int (if j < i then j else i))
  | _ => .stuck
@[simp] def fGcd : List D → Res D
  | [.int a, .int b] => .ok (.int ((Nat.gcd a.natAbs b.natAbs : Nat) : Int))
  | _ => .stuck
@[simp] def fLen : List D → Res D
  | [.lst ds] => .ok (.int ds.length)
  | [.tup ds] => .ok (.int ds.length)
  | [.str z] => if z.length ≤ 1000000 then .ok (.int z.length) else .stuck
  | _ => .stuck
@[simp] def fTuple : List D → Res D
  | [.lst ds] => .ok (.tup ds)
  | [.tup ds] => .ok (.tup ds)
  | _ => .stuck
def fList : List D → Res (List D)
  | [.scr ns] => .ok (ns.map D.int)
  | [.lst ds] => .ok ds
  | [.tup ds] => .ok ds
  | _ => .stuck
def allI : List D → Option (List Int)
  | [] => some []
  | .int i :: r => (allI r).map (i :: ·)
  | _ :: _ => none
def allB : List D → Option (List Bool)
  | [] => some []
  | .bl i :: r => (allB r).map (i :: ·)
  | _ :: _ => none
theorem allI_map : ∀ {ds : List D} {ns : List Int}, allI ds = some ns → ds = ns.map D.int
  | [], ns, h => by simp only [allI, Option.some.injEq] at h; subst h; rfl
  | d :: ds, ns, h => by
    cases d with
    | int i =>
      simp only [allI] at h
      cases e : allI ds with
      | none => rw [e] at h; cases h
      | some ms =>
        rw [e] at h
        simp only [Option.map_some, Option.some.injEq] at h
        subst h
        rw [allI_map e]; rfl
    | _ => simp [allI] at h
theorem allB_map : ∀ {ds : List D} {ns : List Bool}, allB ds = some ns → ds = ns.map D.bl
  | [], ns, h => by simp only [allB, Option.some.injEq] at h; subst h; rfl
  | d :: ds, ns, h => by
    cases d with
    | bl i =>
      simp only [allB] at h
      cases e : allB ds with
      | none => rw [e] at h; cases h
      | some ms =>
        rw [e] at h
        simp only [Option.map_some, Option.some.injEq] at h
        subst h
        rw [allB_map e]; rfl
    | _ => simp [allB] at h
@[simp] theorem allI_of (ns : List Int) : allI (ns.map D.int) = some ns := by
  induction ns with
  | nil => rfl
  | cons n ns ih => simp [allI, ih]
@[simp] theorem allB_of (ns : List Bool) : allB (ns.map D.bl) = some ns := by
  induction ns with
  | nil => rfl
  | cons n ns ih => simp [allB, ih]
def fAll : List D → Res D
  | [.lst ds] => match allB ds with
    | some bs => .ok (.bl (bs.all id))
    | none => .stuck
  | _ => .stuck
def fAny : List D → Res D
  | [.lst ds] => match allB ds with
    | some bs => .ok (.bl (bs.any id))
    | none => .stuck
  | _ => .stuck
def fSum : List D → Res D
  | [.lst ds] => match allI ds with
    | some ns => .ok (.int ns.sum)
    | none => .stuck
  | _ => .stuck
def maxI : List Int → Int
  | [] => 0
  | n :: ns => ns.foldl max n
def minI : List Int → Int
  | [] => 0
  | n :: ns => ns.foldl min n
def fMaxL : List D → Res D
  | [.lst ds] => match allI ds with
    | some (n :: ns) => .ok (.int (maxI (n :: ns)))
    | _ => .stuck
  | _ => .stuck
def fMinL : List D → Res D
  | [.lst ds] => match allI ds with
    | some (n :: ns) => .ok (.int (minI (n :: ns)))
    | _ => .stuck
  | _ => .stuck
def combOk (a b : Int) : Bool := decide (0 ≤ a ∧ 0 ≤ b ∧ a ≤ 18000)
def fComb : List D → Res D
  | [.int a, .int b] => if combOk a b then .ok (.int (PySem.W.mcComb a b)) else .stuck
  | _ => .stuck
def fFact : List D → Res D
  | [.int a] => if decide (0 ≤ a ∧ a ≤ 20000) then .ok (.int ((Builtin.Math.factorialNat a.toNat : Nat) : Int)) else .stuck
  | _ => .stuck
theorem foldl_max_mem : ∀ (ns : List Int) (n : Int), ns.foldl max n = n ∨ ns.foldl max n ∈ ns
  | [], n => .inl rfl
  | m :: ns, n => by
    rcases foldl_max_mem ns (max n m) with h | h
    · rw [List.foldl_cons, h]
      rcases Int.le_total n m with z | z
      · rw [Int.max_eq_right z]; exact .inr List.mem_cons_self
      · rw [Int.max_eq_left z]; exact .inl rfl
    · exact .inr (List.mem_cons_of_mem _ h)
theorem foldl_max_ge : ∀ (ns : List Int) (n : Int), n ≤ ns.foldl max n ∧ ∀ y ∈ ns, y ≤ ns.foldl max n
  | [], n => ⟨Int.le_refl _, fun y h => by simp at h⟩
  | m :: ns, n => by
    obtain ⟨h1, h2⟩ := foldl_max_ge ns (max n m)
    rw [List.foldl_cons]
    refine ⟨by omega, fun y hy => ?_⟩
    rcases List.mem_cons.mp hy with rfl | hy
    · omega
    · exact h2 y hy
theorem foldl_min_mem : ∀ (ns : List Int) (n : Int), ns.foldl min n = n ∨ ns.foldl min n ∈ ns
  | [], n => .inl rfl
  | m :: ns, n => by
    rcases foldl_min_mem ns (min n m) with h | h
    · rw [List.foldl_cons, h]
      rcases Int.le_total n m with z | z
      · rw [Int.min_eq_left z]; exact .inl rfl
      · rw [Int.min_eq_right z]; exact .inr List.mem_cons_self
    · exact .inr (List.mem_cons_of_mem _ h)
theorem foldl_min_le : ∀ (ns : List Int) (n : Int), ns.foldl min n ≤ n ∧ ∀ y ∈ ns, ns.foldl min n ≤ y
  | [], n => ⟨Int.le_refl _, fun y h => by simp at h⟩
  | m :: ns, n => by
    obtain ⟨h1, h2⟩ := foldl_min_le ns (min n m)
    rw [List.foldl_cons]
    refine ⟨by omega, fun y hy => ?_⟩
    rcases List.mem_cons.mp hy with rfl | hy
    · omega
    · exact h2 y hy

theorem rpL1 {F : Fx} {G : Hp} {d : D} {vs : List V} (h : RpL F G [d] vs) : ∃ v, vs = [v] ∧ Rp F G d v := by
  obtain ⟨v, r, rfl, a, l⟩ := h.of_cons
  rw [l.of_nil]
  exact ⟨v, rfl, a⟩
theorem rpL2 {F : Fx} {G : Hp} {d e : D} {vs : List V} (h : RpL F G [d, e] vs) : ∃ v w, vs = [v, w] ∧ Rp F G d v ∧ Rp F G e w := by
  obtain ⟨v, r, rfl, a, l⟩ := h.of_cons
  obtain ⟨w, rfl, b⟩ := rpL1 l
  exact ⟨v, w, rfl, a, b⟩
theorem rpL_ints {F : Fx} {G : Hp} : ∀ ns : List Int, RpL F G (ns.map D.int) (ns.map V.int)
  | [] => RpL.nil
  | n :: ns => RpL.cons (rp_int.mpr rfl) (rpL_ints ns)
section
variable {M : Fr} {W : WX}
theorem ct_abs : CallT M W (fun xs H Q => ∃ i, xs = [.int i] ∧ Q (.int (if i < 0 then -i else i)) H) fAbs := by
  intro ds vs σ G H ε s rs Q hp
  unfold fAbs at hp
  split at hp
  · obtain ⟨v, rfl, r⟩ := rpL1 rs
    rw [rp_int] at r; subst r
    exact ⟨_, rfl, post_ok hp s (rp_int.mpr rfl)⟩
  · exact hp.elim
theorem ct_int : CallT M W (fun xs H Q => (∃ i, xs = [.int i] ∧ Q (.int i) H) ∨ ∃ k, xs = [.bl k] ∧ Q (.int (if k then 1 else 0)) H) fInt := by
  intro ds vs σ G H ε s rs Q hp
  unfold fInt at hp
  split at hp
  · obtain ⟨v, rfl, r⟩ := rpL1 rs
    rw [rp_int] at r; subst r
    exact .inl ⟨_, rfl, post_ok hp s (rp_int.mpr rfl)⟩
  · obtain ⟨v, rfl, r⟩ := rpL1 rs
    rw [rp_bl] at r; subst r
    exact .inr ⟨_, rfl, post_ok hp s (rp_int.mpr rfl)⟩
  · exact hp.elim
theorem ct_max2 : CallT M W (fun xs H Q => ∃ i j, xs = [.int i, .int j] ∧ Q (.int (if j > i then j else i)) H) fMax2 := by
  intro ds vs σ G H ε s rs Q hp
  unfold fMax2 at hp
  split at hp
  · obtain ⟨v, w, rfl, r, r2⟩ := rpL2 rs
    rw [rp_int] at r r2; subst r r2
    exact ⟨_, _, rfl, post_ok hp s (rp_int.mpr rfl)⟩
  · exact hp.elim
theorem ct_min2 : CallT M W (fun xs H Q => ∃ i j, xs = [.int i, .int j] ∧ Q (.int (if j < i then j else i)) H) fMin2 := by
  intro ds vs σ G H ε s rs Q hp
  unfold fMin2 at hp
  split at hp
  · obtain ⟨v, w, rfl, r, r2⟩ := rpL2 rs
    rw [rp_int] at r r2; subst r r2
    exact ⟨_, _, rfl, post_ok hp s (rp_int.mpr rfl)⟩
  · exact hp.elim
theorem ct_gcd : CallT M W rGcd fGcd := by
  intro ds vs σ G H ε s rs Q hp
  unfold fGcd at hp
  split at hp
  · obtain ⟨v, w, rfl, r, r2⟩ := rpL2 rs
    rw [rp_int] at r r2; subst r r2
    exact ⟨_, _, rfl, post_ok hp s (rp_int.mpr rfl)⟩
  · exact hp.elim
def rLenAll (K : PySem.W.Frag) : List V → Hp → VK → Prop := fun xs H Q => (∃ p ys, xs = [.ref p] ∧ (SqL K H p ys ∨ SqT K H p ys) ∧ Q (.int ys.length) H) ∨ ∃ z, xs = [.str z] ∧ z.length ≤ sizeLine ∧ Q (.int z.length) H
theorem call_lenAll {X : Cx} : CallR X (.builtin "len") (rLenAll X.K) := call_len_seq.or call_len_str
theorem ct_len : CallT M W (rLenAll M.F.K) fLen := by
  intro ds vs σ G H ε s rs Q hp
  unfold fLen at hp
  split at hp
  · obtain ⟨v, rfl, r⟩ := rpL1 rs
    obtain ⟨p, ws, rfl, hp', l⟩ := rp_lst.mp r
    refine .inl ⟨p, ws, rfl, .inl (SqL.of (s.sub _ _ hp')), ?_⟩
    rw [← l.length]
    exact post_ok hp s (rp_int.mpr rfl)
  · obtain ⟨v, rfl, r⟩ := rpL1 rs
    obtain ⟨p, ws, rfl, hp', l⟩ := rp_tup.mp r
    refine .inl ⟨p, ws, rfl, .inr (sqT_mono s.sub hp'), ?_⟩
    rw [← l.length]
    exact post_ok hp s (rp_int.mpr rfl)
  · obtain ⟨v, rfl, r⟩ := rpL1 rs
    rw [rp_str] at r; subst r
    split at hp
    · rename_i hz
      exact .inr ⟨_, rfl, line_big hz, post_ok hp s (rp_int.mpr rfl)⟩
    · exact hp.elim
  · exact hp.elim
theorem ct_tuple : CallT M W (fun xs H Q => ∃ p ys, xs = [.ref p] ∧ ((SqL M.F.K H p ys ∧ ∀ l, H l = none → Q (.ref l) (upd H l (.tup ys))) ∨ (SqT M.F.K H p ys ∧ Q (.ref p) H))) fTuple := by
  intro ds vs σ G H ε s rs Q hp
  unfold fTuple at hp
  split at hp
  · obtain ⟨v, rfl, r⟩ := rpL1 rs
    obtain ⟨p, ws, rfl, hp', l⟩ := rp_lst.mp r
    refine ⟨p, ws, rfl, .inl ⟨SqL.of (s.sub _ _ hp'), fun q hq => ?_⟩⟩
    exact post_new hp s hq (fun ps z => by cases z) (rp_tup.mpr ⟨q, _, rfl, .inl (.inl upd_same), l.mono (up_mono (s.gnone hq))⟩)
  · obtain ⟨v, rfl, r⟩ := rpL1 rs
    obtain ⟨p, ws, rfl, hp', l⟩ := rp_tup.mp r
    exact ⟨p, ws, rfl, .inr ⟨sqT_mono s.sub hp', post_ok hp s (rp_tup.mpr ⟨p, ws, rfl, hp', l⟩)⟩⟩
  · exact hp.elim
theorem cn_list : CallN M W (fun xs H Q => ∃ p ys, xs = [.ref p] ∧ (SqL M.F.K H p ys ∨ SqT M.F.K H p ys) ∧ ∀ l, H l = none → Q (.ref l) (upd H l (.lst ys))) fList := by
  intro ds vs σ G H ε s rs Q hp
  unfold fList at hp
  split at hp
  · rename_i ns
    obtain ⟨v, rfl, r⟩ := rpL1 rs
    obtain ⟨p, rfl, hq⟩ : ∃ a, v = .ref a ∧ SqL M.F.K G a (ns.map V.int) := by simpa only [Rp] using r
    exact ⟨p, _, rfl, .inl (sqL_mono s.sub hq), fun q hq => postN_new hp s hq (rpL_ints ns)⟩
  · obtain ⟨v, rfl, r⟩ := rpL1 rs
    obtain ⟨p, ws, rfl, hp', l⟩ := rp_lst.mp r
    exact ⟨p, ws, rfl, .inl (SqL.of (s.sub _ _ hp')), fun q hq => postN_new hp s hq l⟩
  · obtain ⟨v, rfl, r⟩ := rpL1 rs
    obtain ⟨p, ws, rfl, hp', l⟩ := rp_tup.mp r
    exact ⟨p, ws, rfl, .inr (sqT_mono s.sub hp'), fun q hq => postN_new hp s hq l⟩
  · exact hp.elim
theorem ct_all : CallT M W (rAll M.F.K) fAll := by
  intro ds vs σ G H ε s rs Q hp
  unfold fAll at hp
  split at hp
  · split at hp
    · rename_i bs e
      obtain ⟨v, rfl, r⟩ := rpL1 rs
      obtain ⟨p, ws, rfl, hp', l⟩ := rp_lst.mp r
      rw [allB_map e] at l
      have e2 := l.mapB
      subst e2
      exact ⟨p, bs, rfl, SqL.of (s.sub _ _ hp'), post_ok hp s (rp_bl.mpr rfl)⟩
    · exact hp.elim
  · exact hp.elim
theorem ct_any : CallT M W (rAny M.F.K) fAny := by
  intro ds vs σ G H ε s rs Q hp
  unfold fAny at hp
  split at hp
  · split at hp
    · rename_i bs e
      obtain ⟨v, rfl, r⟩ := rpL1 rs
      obtain ⟨p, ws, rfl, hp', l⟩ := rp_lst.mp r
      rw [allB_map e] at l
      have e2 := l.mapB
      subst e2
      exact ⟨p, bs, rfl, SqL.of (s.sub _ _ hp'), post_ok hp s (rp_bl.mpr rfl)⟩
    · exact hp.elim
  · exact hp.elim
theorem ct_sum : CallT M W (rSum M.F.K) fSum := by
  intro ds vs σ G H ε s rs Q hp
  unfold fSum at hp
  split at hp
  · split at hp
    · rename_i bs e
      obtain ⟨v, rfl, r⟩ := rpL1 rs
      obtain ⟨p, ws, rfl, hp', l⟩ := rp_lst.mp r
      rw [allI_map e] at l
      have e2 := l.mapI
      subst e2
      exact ⟨p, bs, rfl, SqL.of (s.sub _ _ hp'), post_ok hp s (rp_int.mpr rfl)⟩
    · exact hp.elim
  · exact hp.elim
theorem ct_maxL : CallT M W (rMax M.F.K) fMaxL := by
  intro ds vs σ G H ε s rs Q hp
  unfold fMaxL at hp
  split at hp
  · split at hp
    · rename_i n ns e
      obtain ⟨v, rfl, r⟩ := rpL1 rs
      obtain ⟨p, ws, rfl, hp', l⟩ := rp_lst.mp r
      rw [allI_map e] at l
      have e2 := l.mapI
      subst e2
      refine ⟨p, n :: ns, rfl, SqL.of (s.sub _ _ hp'), Nat.succ_pos _, fun m hm hle => ?_⟩
      have em : m = maxI (n :: ns) := by
        have h1 := foldl_max_ge ns n
        have h2 := foldl_max_mem ns n
        have h3 : maxI (n :: ns) ≤ m := by
          rcases h2 with z | z
          · rw [show maxI (n :: ns) = ns.foldl max n from rfl, z]; exact hle _ List.mem_cons_self
          · exact hle _ (List.mem_cons_of_mem _ z)
        have h4 : m ≤ maxI (n :: ns) := by
          rcases List.mem_cons.mp hm with rfl | z
          · exact h1.1
          · exact h1.2 _ z
        omega
      rw [em]
      exact post_ok hp s (rp_int.mpr rfl)
    · exact hp.elim
  · exact hp.elim
theorem ct_minL : CallT M W (rMin M.F.K) fMinL := by
  intro ds vs σ G H ε s rs Q hp
  unfold fMinL at hp
  split at hp
  · split at hp
    · rename_i n ns e
      obtain ⟨v, rfl, r⟩ := rpL1 rs
      obtain ⟨p, ws, rfl, hp', l⟩ := rp_lst.mp r
      rw [allI_map e] at l
      have e2 := l.mapI
      subst e2
      refine ⟨p, n :: ns, rfl, SqL.of (s.sub _ _ hp'), Nat.succ_pos _, fun m hm hle => ?_⟩
      have em : m = minI (n :: ns) := by
        have h1 := foldl_min_le ns n
        have h2 := foldl_min_mem ns n
        have h3 : m ≤ minI (n :: ns) := by
          rcases h2 with z | z
          · rw [show minI (n :: ns) = ns.foldl min n from rfl, z]; exact hle _ List.mem_cons_self
          · exact hle _ (List.mem_cons_of_mem _ z)
        have h4 : minI (n :: ns) ≤ m := by
          rcases List.mem_cons.mp hm with rfl | z
          · exact h1.1
          · exact h1.2 _ z
        omega
      rw [em]
      exact post_ok hp s (rp_int.mpr rfl)
    · exact hp.elim
  · exact hp.elim
def rComb : List V → Hp → VK → Prop := fun vs H Q => ∃ a b : Int, vs = [.int a, .int b] ∧ combOk a b = true ∧ Q (.int (PySem.W.mcComb a b)) H
theorem cr_comb {X : Cx} : CallR X (.builtin "math.comb") rComb := by
  intro pins s σ H vs us Q I r h
  obtain ⟨a, b, rfl, ok, q⟩ := h
  obtain ⟨t, u, rfl⟩ := Vals.int2 r
  have ok' := of_decide_eq_true ok
  exact PySem.W.mc_comb (by omega) (by omega) (by omega) (.inr (by omega)) fun _ => ⟨.int _, H, I.tok _, ⟨_, rfl⟩, q⟩
def rFact : List V → Hp → VK → Prop := fun vs H Q => ∃ a : Int, vs = [.int a] ∧ 0 ≤ a ∧ a ≤ 20000 ∧ Q (.int ((Builtin.Math.factorialNat a.toNat : Nat) : Int)) H
theorem cr_fact {X : Cx} : CallR X (.builtin "math.factorial") rFact := by
  intro pins s σ H vs us Q I r h
  obtain ⟨a, rfl, h0, h1, q⟩ := h
  obtain ⟨u, rfl, t, rfl⟩ := vals1 r
  exact PySem.W.mc_factorial h0 h1 fun _ => ⟨.int _, H, I.tok _, ⟨_, rfl⟩, q⟩
theorem ct_comb : CallT M W rComb fComb := by
  intro ds vs σ G H ε s rs Q hp
  unfold fComb at hp
  split at hp
  · obtain ⟨v, w, rfl, r, r2⟩ := rpL2 rs
    rw [rp_int] at r r2; subst r r2
    split at hp
    · rename_i h
      exact ⟨_, _, rfl, h, post_ok hp s (rp_int.mpr rfl)⟩
    · exact hp.elim
  · exact hp.elim
theorem ct_fact : CallT M W rFact fFact := by
  intro ds vs σ G H ε s rs Q hp
  unfold fFact at hp
  split at hp
  · obtain ⟨v, rfl, r⟩ := rpL1 rs
    rw [rp_int] at r; subst r
    split at hp
    · rename_i h
      have h' := of_decide_eq_true h
      exact ⟨_, rfl, h'.1, h'.2, post_ok hp s (rp_int.mpr rfl)⟩
    · exact hp.elim
  · exact hp.elim
/-! isinstance -/
def tyName : D → Option String
  | .non => some "NoneType"
  | .bl _ => some "bool"
  | .int _ => some "int"
  | .str _ => some "str"
  | .tup _ => some "tuple"
  | .lst _ => some "list"
  | .fn _ => none
  | .scr _ => none
def fIsi (T : String) : List D → Res D
  | [d] => match tyName d with
    | some t => match kitB t T with
      | some b => .ok (.bl b)
      | none => .stuck
    | none => .stuck
  | _ => .stuck
theorem tyx_of {K : PySem.W.Frag} {F : Fx} {G H : Hp} (hK : K = F.K) (sub : ∀ q o, G q = some o → H q = some o) {d : D} {v : V} {t : String} (r : Rp F G d v) (e : tyName d = some t) : TyX K H v (.type t) := by
  cases d with
  | non => cases e; rw [rp_non] at r; subst r; exact .base .non
  | bl b => cases e; rw [rp_bl] at r; subst r; exact .base (.bl b)
  | int b => cases e; rw [rp_int] at r; subst r; exact .base (.int b)
  | str b => cases e; rw [rp_str] at r; subst r; exact .base (.str b)
  | tup ds =>
    cases e
    obtain ⟨a, vs, rfl, h, _⟩ := rp_tup.mp r
    rcases h with (h | ⟨o, h⟩) | ⟨o, its, n, h1, h2, _⟩
    · exact .base (.tup (sub _ _ h))
    · exact .fTuple (sub _ _ h)
    · exact .kTuple (by rw [hK]; exact h1) h2
  | lst ds =>
    cases e
    obtain ⟨a, vs, rfl, h, _⟩ := rp_lst.mp r
    exact .base (.lst (sub _ _ h))
  | fn k => cases e
  | scr k => cases e
end
section
variable {M : Fr} {W : WX} {X : Cx} {k : Nat} {a b e : Expr} {es rest : List Expr} {fa fb f : Ev → Res (D × Ev)} {g : Ev → Res (List D × Ev)} {pos : Pos}
/-- a built-in function by its name -/
theorem pv_callB {x : Str} {id : String} {p : Pos} {r : List V → Hp → VK → Prop} {gf : List D → Res D} {fs : Ev → Res (List D × Ev)} (hc : CallR X (.builtin id) r) (hT : CallT M W r gf) (hm : X.mg x = none) (hv : bootBuiltins x = some (.builtin id)) (ha : PA' M W X (e :: es) fs)
    (hg : Gl X x := by rfl) (hn : x ≠ "__name__" := by decide) (hdb : (x == ("__debug__" : Str)) = false := by decide)
    (he : starEach (e :: es) X.env = (false, eval e X.env) :: starEach es X.env := by rfl) (hpl : (backTo pos (starEach es X.env)).any (·.1) = false := by rfl) : PV M W X (.Call (.Name x p) (e :: es) [] pos) (eCB gf fs) := by
  obtain ⟨⟨t, et, qt⟩, _⟩ := ha
  exact ⟨_, pe_callB hc hg hm hv et hn hdb he hpl, tr_cb hT qt⟩
theorem pv_callTy {x : Str} {T : String} {p : Pos} {r : List V → Hp → VK → Prop} {gf : List D → Res D} {fs : Ev → Res (List D × Ev)} (hc : CallR X (.type T) r) (hT : CallT M W r gf) (hm : X.mg x = none) (hv : bootBuiltins x = some (.type T)) (ha : PA' M W X (e :: es) fs)
    (hg : Gl X x := by rfl) (hn : x ≠ "__name__" := by decide) (hdb : (x == ("__debug__" : Str)) = false := by decide)
    (he : starEach (e :: es) X.env = (false, eval e X.env) :: starEach es X.env := by rfl) (hpl : (backTo pos (starEach es X.env)).any (·.1) = false := by rfl) : PV M W X (.Call (.Name x p) (e :: es) [] pos) (eCB gf fs) := by
  obtain ⟨⟨t, et, qt⟩, _⟩ := ha
  exact ⟨_, pe_callTy hc hg hm hv et hn hdb he hpl, tr_cb hT qt⟩
theorem pn_callTy {x : Str} {T : String} {p : Pos} {r : List V → Hp → VK → Prop} {gf : List D → Res (List D)} {fs : Ev → Res (List D × Ev)} (hc : CallR X (.type T) r) (hT : CallN M W r gf) (hm : X.mg x = none) (hv : bootBuiltins x = some (.type T)) (ha : PA' M W X (e :: es) fs)
    (hg : Gl X x := by rfl) (hn : x ≠ "__name__" := by decide) (hdb : (x == ("__debug__" : Str)) = false := by decide)
    (he : starEach (e :: es) X.env = (false, eval e X.env) :: starEach es X.env := by rfl) (hpl : (backTo pos (starEach es X.env)).any (·.1) = false := by rfl) : PN M W X (.Call (.Name x p) (e :: es) [] pos) (eCN gf fs) := by
  obtain ⟨⟨t, et, qt⟩, _⟩ := ha
  exact ⟨_, pe_callTy hc hg hm hv et hn hdb he hpl, tr_cn hT qt⟩
/-- a module's name for a built-in function -/
theorem pv_callM {x : Str} {id : String} {p : Pos} {r : List V → Hp → VK → Prop} {gf : List D → Res D} {fs : Ev → Res (List D × Ev)} (hc : CallR X (.builtin id) r) (hT : CallT M W r gf) (hm : X.mg x = some (.builtin id)) (ha : PA' M W X (e :: es) fs)
    (hg : Gl X x := by rfl) (hdb : (x == ("__debug__" : Str)) = false := by decide)
    (he : starEach (e :: es) X.env = (false, eval e X.env) :: starEach es X.env := by rfl) (hpl : (backTo pos (starEach es X.env)).any (·.1) = false := by rfl) : PV M W X (.Call (.Name x p) (e :: es) [] pos) (eCB gf fs) := by
  obtain ⟨⟨t, et, qt⟩, _⟩ := ha
  exact ⟨_, pe_callBfun hc hg hm et hdb he hpl, tr_cb hT qt⟩

theorem pv_abs {p : Pos} {fs} (hm : X.mg "abs" = none) (ha : PA' M W X [e] fs) (hg : Gl X "abs" := by rfl) (he : starEach [e] X.env = (false, eval e X.env) :: starEach [] X.env := by rfl) : PV M W X (.Call (.Name "abs" p) [e] [] pos) (eCB fAbs fs) :=
  pv_callB call_abs ct_abs hm (by decide +kernel) ha hg (by decide) (by decide) he rfl
theorem pv_intc {p : Pos} {fs} (hm : X.mg "int" = none) (ha : PA' M W X [e] fs) (hg : Gl X "int" := by rfl) (he : starEach [e] X.env = (false, eval e X.env) :: starEach [] X.env := by rfl) : PV M W X (.Call (.Name "int" p) [e] [] pos) (eCB fInt fs) :=
  pv_callTy call_int1 ct_int hm (by decide +kernel) ha hg (by decide) (by decide) he rfl
theorem pv_len (c : CO M W k X) {p : Pos} {fs} (hm : X.mg "len" = none) (ha : PA' M W X [e] fs) (hg : Gl X "len" := by rfl) (he : starEach [e] X.env = (false, eval e X.env) :: starEach [] X.env := by rfl) : PV M W X (.Call (.Name "len" p) [e] [] pos) (eCB fLen fs) :=
  pv_callB (by rw [← c.hK]; exact call_lenAll) ct_len hm (by decide +kernel) ha hg (by decide) (by decide) he rfl
theorem pv_tuple (c : CO M W k X) {p : Pos} {fs} (hm : X.mg "tuple" = none) (ha : PA' M W X [e] fs) (hg : Gl X "tuple" := by rfl) (he : starEach [e] X.env = (false, eval e X.env) :: starEach [] X.env := by rfl) : PV M W X (.Call (.Name "tuple" p) [e] [] pos) (eCB fTuple fs) :=
  pv_callTy (by rw [← c.hK]; exact call_tuple_of) ct_tuple hm (by decide +kernel) ha hg (by decide) (by decide) he rfl
theorem pn_list (c : CO M W k X) {p : Pos} {fs} (hm : X.mg "list" = none) (ha : PA' M W X [e] fs) (hg : Gl X "list" := by rfl) (he : starEach [e] X.env = (false, eval e X.env) :: starEach [] X.env := by rfl) : PN M W X (.Call (.Name "list" p) [e] [] pos) (eCN fList fs) :=
  pn_callTy (by rw [← c.hK]; exact call_list_of) cn_list hm (by decide +kernel) ha hg (by decide) (by decide) he rfl
theorem pv_all (c : CO M W k X) {p : Pos} {fs} (hm : X.mg "all" = none) (ha : PA' M W X [e] fs) (hg : Gl X "all" := by rfl) (he : starEach [e] X.env = (false, eval e X.env) :: starEach [] X.env := by rfl) : PV M W X (.Call (.Name "all" p) [e] [] pos) (eCB fAll fs) :=
  pv_callB (by rw [← c.hK]; exact cr_all c.calm) ct_all hm (by decide +kernel) ha hg (by decide) (by decide) he rfl
theorem pv_any (c : CO M W k X) {p : Pos} {fs} (hm : X.mg "any" = none) (ha : PA' M W X [e] fs) (hg : Gl X "any" := by rfl) (he : starEach [e] X.env = (false, eval e X.env) :: starEach [] X.env := by rfl) : PV M W X (.Call (.Name "any" p) [e] [] pos) (eCB fAny fs) :=
  pv_callB (by rw [← c.hK]; exact cr_any c.calm) ct_any hm (by decide +kernel) ha hg (by decide) (by decide) he rfl
theorem pv_sum (c : CO M W k X) {p : Pos} {fs} (hm : X.mg "sum" = none) (ha : PA' M W X [e] fs) (hg : Gl X "sum" := by rfl) (he : starEach [e] X.env = (false, eval e X.env) :: starEach [] X.env := by rfl) : PV M W X (.Call (.Name "sum" p) [e] [] pos) (eCB fSum fs) :=
  pv_callB (by rw [← c.hK]; exact cr_sum c.calm) ct_sum hm (by decide +kernel) ha hg (by decide) (by decide) he rfl
theorem pv_max1 (c : CO M W k X) {p : Pos} {fs} (hm : X.mg "max" = none) (ha : PA' M W X [e] fs) (hg : Gl X "max" := by rfl) (he : starEach [e] X.env = (false, eval e X.env) :: starEach [] X.env := by rfl) : PV M W X (.Call (.Name "max" p) [e] [] pos) (eCB fMaxL fs) :=
  pv_callB (by rw [← c.hK]; exact cr_max c.calm) ct_maxL hm (by decide +kernel) ha hg (by decide) (by decide) he rfl
theorem pv_min1 (c : CO M W k X) {p : Pos} {fs} (hm : X.mg "min" = none) (ha : PA' M W X [e] fs) (hg : Gl X "min" := by rfl) (he : starEach [e] X.env = (false, eval e X.env) :: starEach [] X.env := by rfl) : PV M W X (.Call (.Name "min" p) [e] [] pos) (eCB fMinL fs) :=
  pv_callB (by rw [← c.hK]; exact cr_min c.calm) ct_minL hm (by decide +kernel) ha hg (by decide) (by decide) he rfl
theorem pv_max2 (c : CO M W k X) {e2 : Expr} {p : Pos} {fs} (hm : X.mg "max" = none) (ha : PA' M W X [e, e2] fs) (hg : Gl X "max" := by rfl) (he : starEach [e, e2] X.env = (false, eval e X.env) :: starEach [e2] X.env := by rfl) (hpl : (backTo pos (starEach [e2] X.env)).any (·.1) = false := by rfl) : PV M W X (.Call (.Name "max" p) [e, e2] [] pos) (eCB fMax2 fs) :=
  pv_callB (call_max2 c.calm) ct_max2 hm (by decide +kernel) ha hg (by decide) (by decide) he hpl
theorem pv_min2 (c : CO M W k X) {e2 : Expr} {p : Pos} {fs} (hm : X.mg "min" = none) (ha : PA' M W X [e, e2] fs) (hg : Gl X "min" := by rfl) (he : starEach [e, e2] X.env = (false, eval e X.env) :: starEach [e2] X.env := by rfl) (hpl : (backTo pos (starEach [e2] X.env)).any (·.1) = false := by rfl) : PV M W X (.Call (.Name "min" p) [e, e2] [] pos) (eCB fMin2 fs) :=
  pv_callB (call_min2 c.calm) ct_min2 hm (by decide +kernel) ha hg (by decide) (by decide) he hpl
theorem pv_gcd {e2 : Expr} {x : Str} {p : Pos} {fs} (hm : X.mg x = some (.builtin "math.gcd")) (ha : PA' M W X [e, e2] fs) (hg : Gl X x := by rfl) (hdb : (x == ("__debug__" : Str)) = false := by decide) (he : starEach [e, e2] X.env = (false, eval e X.env) :: starEach [e2] X.env := by rfl) (hpl : (backTo pos (starEach [e2] X.env)).any (·.1) = false := by rfl) : PV M W X (.Call (.Name x p) [e, e2] [] pos) (eCB fGcd fs) :=
  pv_callM cr_gcd ct_gcd hm ha hg hdb he hpl
theorem pv_comb {e2 : Expr} {x : Str} {p : Pos} {fs} (hm : X.mg x = some (.builtin "math.comb")) (ha : PA' M W X [e, e2] fs) (hg : Gl X x := by rfl) (hdb : (x == ("__debug__" : Str)) = false := by decide) (he : starEach [e, e2] X.env = (false, eval e X.env) :: starEach [e2] X.env := by rfl) (hpl : (backTo pos (starEach [e2] X.env)).any (·.1) = false := by rfl) : PV M W X (.Call (.Name x p) [e, e2] [] pos) (eCB fComb fs) :=
  pv_callM cr_comb ct_comb hm ha hg hdb he hpl
theorem pv_fact {x : Str} {p : Pos} {fs} (hm : X.mg x = some (.builtin "math.factorial")) (ha : PA' M W X [e] fs) (hg : Gl X x := by rfl) (hdb : (x == ("__debug__" : Str)) = false := by decide) (he : starEach [e] X.env = (false, eval e X.env) :: starEach [] X.env := by rfl) : PV M W X (.Call (.Name x p) [e] [] pos) (eCB fFact fs) :=
  pv_callM cr_fact ct_fact hm ha hg hdb he rfl
/-- isinstance(e, T), T a built-in type -/
theorem pv_isi (c : CO M W k X) {x : Str} {T : String} {p p2 : Pos} (hm : X.mg "isinstance" = none) (hx : X.mg x = none) (hv : bootBuiltins x = some (.type T)) (ha : PV M W X e f) (hg : Gl X "isinstance" := by rfl) (hg2 : Gl X x := by rfl) (hn : x ≠ "__name__" := by decide) (hdb : (x == ("__debug__" : Str)) = false := by decide)
    (he : starEach [e, .Name x p2] X.env = (false, eval e X.env) :: starEach [.Name x p2] X.env := by rfl) (he2 : starEach [.Name x p2] X.env = (false, eval (.Name x p2) X.env) :: starEach [] X.env := by rfl) (hpl : (backTo pos (starEach [.Name x p2] X.env)).any (·.1) = false := by rfl) :
    PV M W X (.Call (.Name "isinstance" p) [e, .Name x p2] [] pos) (eUn (fun d => fIsi T [d]) f) := by
  obtain ⟨t, et, qt⟩ := ha
  have h2 : PE X (.Name x p2) (tC (.ty T)) := pe_bltn hg2 hx hv (show RelV (.ty T) (.type T) from rfl) hn hdb
  refine ⟨_, pe_callB call_isi hg hm (by decide +kernel) (L2.pa_cons et (L2.pa_cons h2 L2.pa_nil he2) he) (by decide) (by decide) he hpl, ?_⟩
  refine Tr.bind (f2 := fun d ε => (fIsi T [d]).bind fun r => .ok (r, ε)) (t2 := fun v σ H1 (Q : VK) => rIsi X.K [v, .ty T] H1 Q) qt ?_
  intro d v σ G H ε s rd Q hp
  simp only [fIsi] at hp
  cases e1 : tyName d with
  | none => rw [e1] at hp; exact hp.elim
  | some t =>
    rw [e1] at hp
    simp only at hp
    cases e2 : kitB t T with
    | none => rw [e2] at hp; exact hp.elim
    | some b =>
      rw [e2] at hp
      exact ⟨v, .ty T, .type t, .type T, b, rfl, .ty T, tyx_of c.hK s.sub rd e1, kit_ty e2, post_ok hp s (rp_bl.mpr rfl)⟩
/-- len of a name whose list may be owned -/
@[reducible] def eLenV (i : Nat) : Ev → Res (D × Ev) := fun ε => (getAny ε i).bind fun d => (fLen [d]).bind fun n => .ok (n, ε)
theorem pv_lenV (c : CO M W k X) (i : Nat) {x : Str} {px p : Pos} (hm : X.mg "len" = none) (hN : X.N[i]? = some x := by rfl)
    (hv : Vis X.env.scope x := by first | exact Or.inl rfl | exact Or.inr (Or.inl rfl) | exact Or.inr (Or.inr rfl)) (hd : (x == ("__debug__" : Str)) = false := by decide) (hcd : (x == ("__classdict__" : Str)) = false := by decide)
    (hg : Gl X "len" := by rfl) (he : starEach [.Name x px] X.env = (false, eval (.Name x px) X.env) :: starEach [] X.env := by rfl) : PV M W X (.Call (.Name "len" p) [.Name x px] [] pos) (eLenV i) := by
  refine ⟨_, pe_callB (r := rLenAll M.F.K) (by rw [← c.hK]; exact call_lenAll) hg hm (by decide +kernel) (L2.pa_cons (pe_var hN hv hd hcd) L2.pa_nil he) (by decide) (by decide) he rfl, ?_⟩
  intro σ G H ε s Q hp
  simp only [eLenV] at hp
  cases e0 : getAny ε i with
  | stuck => rw [e0] at hp; exact hp.elim
  | err c => simp only [getAny] at e0; split at e0 <;> cases e0
  | ok d =>
    rw [e0] at hp
    obtain ⟨v, ev, r⟩ := s.any e0
    refine ⟨v, ev, ?_⟩
    cases d with
    | lst ds =>
      obtain ⟨a, vs, rfl, ha, l⟩ := r
      refine .inl ⟨a, vs, rfl, .inl (SqL.of ha), ?_⟩
      rw [← l.length]
      exact post_ok hp s (rp_int.mpr rfl)
    | tup ds =>
      obtain ⟨a, vs, rfl, ha, l⟩ := rpH_tup.mp r
      refine .inl ⟨a, vs, rfl, .inr (sqT_mono s.sub ha), ?_⟩
      rw [← l.length]
      exact post_ok hp s (rp_int.mpr rfl)
    | str z =>
      rw [rpH_str] at r; subst r
      simp only [fLen, Res.bind_ok] at hp
      split at hp
      · rename_i hz
        exact .inr ⟨z, rfl, line_big hz, post_ok hp s (rp_int.mpr rfl)⟩
      · exact hp.elim
    | _ => exact hp.elim
end
end PL
/-! PL, part e: slices. -/
namespace PL
open PySem PySem.Spec PyProof.Rows L2

/-! ### a tuple's slices in the model -/
def whole (lo : Int) (st : Int) (k n : Nat) : Bool := lo == 0 && st == 1 && k == n
section
variable {prog : Program} {w : World} {A : Around} {E : Value → Shared → Prop} {s : Shared}
theorem applied_any {sl : Addr} {vl vu vs : Value} {lo hi st : Option Int} {n : Nat} {Q : Int × Int × Nat → Shared → Prop} (hs : s.heap.IsSliceOf sl vl vu vs) (pl : IsPart vl lo) (pu : IsPart vu hi) (ps : IsPart vs st) (h0 : st ≠ some 0)
    (h : Q ((Builtin.Slice.sliceAdjust lo hi (st.getD 1) n).1, st.getD 1, Builtin.Slice.slicePlaces (Builtin.Slice.sliceAdjust lo hi (st.getD 1) n).1 (Builtin.Slice.sliceAdjust lo hi (st.getD 1) n).2 (st.getD 1)) s) :
    wpAny (model prog w) A (Builtin.Slice.sliceApplied (.ref sl) (pure (n : Int))) Q E s := by
  obtain ⟨os, hos, hcs, hds⟩ := id hs
  unfold Builtin.Slice.sliceApplied Builtin.Slice.sliceFields
  refine wpAny_bind (wpAny_bind (wpAny_field hos hds (x := vl) rfl (wpAny_bind (wpAny_field hos hds (x := vu) rfl (wpAny_bind (wpAny_field hos hds (x := vs) rfl (wpAny_pure ?_)))))))
  refine wpAny_bind (HT.slicePart_ ps ?_)
  have hz : ¬ ((st.getD 1 == (0 : Int)) = true) := by
    cases st with
    | none => decide
    | some c => intro q; exact h0 (by rw [show c = 0 from eq_of_beq q])
  rw [if_neg hz]
  exact wpAny_bind (HT.slicePart_ pl (wpAny_bind (HT.slicePart_ pu (wpAny_bind (wpAny_pure (wpAny_pure h))))))
theorem tup_slice {t sl : Addr} {items : Array Value} {vl vu vs : Value} {lo hi st : Option Int} {a : Int} {k : Nat} {Q : Value → Shared → Prop} (ht : IsTup s.heap t items) (hs : s.heap.IsSliceOf sl vl vu vs) (pl : IsPart vl lo) (pu : IsPart vu hi) (ps : IsPart vs st) (h0 : st ≠ some 0)
    (ha : (Builtin.Slice.sliceAdjust lo hi (st.getD 1) items.size).1 = a) (hk : Builtin.Slice.slicePlaces a (Builtin.Slice.sliceAdjust lo hi (st.getD 1) items.size).2 (st.getD 1) = k)
    (h1 : whole a (st.getD 1) k items.size = true → Q (.ref t) s)
    (h2 : whole a (st.getD 1) k items.size = false → Q (.ref s.heap.objs.size) { s with heap := s.heap.push { cls := .type "tuple", data := .seq ((List.range k).filterMap fun (m : Nat) => items[(a + (m : Int) * st.getD 1).toNat]?).toArray } })
    (hsz : k ≤ sizeLine) : wpAny (model prog w) A (getItem (.ref t) (.ref sl)) Q E s := by
  have hfit : sizeOk (.seq ((List.range k).filterMap fun (m : Nat) => items[(a + (m : Int) * st.getD 1).toNat]?).toArray) := by
    show (((List.range k).filterMap fun (m : Nat) => items[(a + (m : Int) * st.getD 1).toNat]?).toArray).size ≤ sizeLine
    rw [List.size_toArray]
    exact Nat.le_trans (List.length_filterMap_le _ _) (by rw [List.length_range]; exact hsz)
  obtain ⟨os, hos, hcs, hds⟩ := id hs
  have hTs : s.TypeIs (.ref sl) "slice" := ⟨os, hos, hcs⟩
  unfold getItem
  (try with_reducible refine wpAny_holding ?_); (first | refine wpAny_bind (wpAny_pure ?_) | skip); refine wpAny_bind (wpAny_sequenceKey ht.typeIs (by decide) ?_)
  refine wpAny_bind (wpAny_callSpecial?_slot (name := Str.ofString "__getitem__") ht.typeIs PyProof.Rows.slot_tuple_getitem (wpAny_call_entry PyProof.Rows.slot_tuple_getitem ht.typeIs entry_tuple_getitem ?_ (args_tuple_getitem _ _)))
  show wpAny _ _ (Builtin.Tuple.tupleItemsOf (.ref t) >>= _) _ _ s
  refine wpAny_bind (tupleItemsOf_ ht ?_); refine wpAny_bind (wpAny_typeOf hTs ?_); rw [if_pos (by decide)]; refine wpAny_bind (applied_any hs pl pu ps h0 ?_)
  rw [ha, hk]
  show wpAny _ _ (if (a == 0 && st.getD 1 == 1 && k == items.size) = true then _ else _) _ _ s
  by_cases hw : whole a (st.getD 1) k items.size = true
  · rw [if_pos (show (a == 0 && st.getD 1 == 1 && k == items.size) = true from hw)]
    have h := h1 hw
    obtain ⟨o, ho, hc, n, hd⟩ := id ht
    have hTt : s.TypeIs (.ref t) "tuple" := ⟨o, ho, hc⟩
    unfold Builtin.Tuple.tupleIsExact
    refine wpAny_bind (wpAny_bind (wpAny_typeOf hTt (wpAny_pure ?_)))
    rw [if_pos (by decide)]
    exact wpAny_bind (wpAny_rule (wpAny_pure ⟨_, rfl, wpAny_pure h⟩))
  · rw [if_neg (show ¬ (a == 0 && st.getD 1 == 1 && k == items.size) = true from hw)]
    have h := h2 (by simpa using hw)
    first
      | exact wpAny_bind (m := Builtin.Tuple.tupleExact _) (wpAny_newObj_type (wpAny_pure ⟨_, rfl, wpAny_pure h⟩) hfit)
      | exact wpAny_bind (m := Builtin.Tuple.tupleExact _) (wpAny_newObj_type (wpAny_bind (wpAny_pure (wpAny_pure ⟨_, rfl, wpAny_pure h⟩))) hfit)
      | exact wpAny_bind (wpAny_bind (m := Builtin.Tuple.tupleExact _) (wpAny_newObj_type (wpAny_pure (wpAny_pure ⟨_, rfl, wpAny_pure h⟩)) hfit))
      | exact wpAny_bind (wpAny_bind (m := Builtin.Tuple.tupleExact _) (wpAny_newObj_type (wpAny_pure ⟨_, rfl, wpAny_pure h⟩) hfit))
end

/-! ### parts of a slice -/
def RO : Hp → Option Int → Option Int → Prop := fun _ a b => a = b
def PO' (M : Fr) (W : WX) (X : Cx) (e : Option Expr) (f : Ev → Res (Option Int × Ev)) : Prop := ∃ t, PO X e t ∧ Tr M W RO t f
@[reducible, simp] def oN : Ev → Res (Option Int × Ev) := fun ε => .ok (none, ε)
@[reducible, simp] def asI (d : D) : Res Int := match d with
  | .int i => .ok i
  | _ => .stuck
@[reducible, simp] def oS (f : Ev → Res (D × Ev)) : Ev → Res (Option Int × Ev) := fun ε => (f ε).bind fun p => (asI p.1).bind fun i => .ok (some i, p.2)
def cutD (ds : List D) (lo hi : Option Int) : List D := (ds.drop (HT.sIx ds.length 0 lo)).take (HT.sIx ds.length ds.length hi - HT.sIx ds.length 0 lo)
@[simp] def dSl : D → Option Int → Option Int → Res D
  | .lst ds, lo, hi => .ok (.lst (cutD ds lo hi))
  | .tup ds, lo, hi => .ok (.tup (cutD ds lo hi))
  | _, _, _ => .stuck
def dSlN : D → Option Int → Option Int → Res (List D)
  | .lst ds, lo, hi => .ok (cutD ds lo hi)
  | _, _, _ => .stuck
@[reducible, simp] def eSl (f : Ev → Res (D × Ev)) (lo hi : Ev → Res (Option Int × Ev)) : Ev → Res (D × Ev) := fun ε =>
  (f ε).bind fun p => (lo p.2).bind fun q => (hi q.2).bind fun r => (dSl p.1 q.1 r.1).bind fun d => .ok (d, r.2)
@[reducible] def eSlN (f : Ev → Res (D × Ev)) (lo hi : Ev → Res (Option Int × Ev)) : Ev → Res (List D × Ev) := fun ε =>
  (f ε).bind fun p => (lo p.2).bind fun q => (hi q.2).bind fun r => (dSlN p.1 q.1 r.1).bind fun d => .ok (d, r.2)
theorem RpL.cut {F : Fx} {G : Hp} {ds : List D} {vs : List V} (l : RpL F G ds vs) (lo hi : Option Int) : RpL F G (cutD ds lo hi) (cutV vs lo hi) := by
  unfold cutD cutV
  rw [l.length]
  exact (l.drop _).take _
def rSlAll (K : PySem.W.Frag) : V → Option Int → Option Int → Hp → VK → Prop := fun x lo hi H Q => rSlL K x lo hi H Q ∨ rSlA K x lo hi H Q
theorem sl_all {X : Cx} : SlR X (rSlAll X.K) := sl_list.or sl_tupA
section
variable {M : Fr} {W : WX} {X : Cx} {k : Nat} {a b e : Expr} {es rest : List Expr} {fa fb f : Ev → Res (D × Ev)} {g : Ev → Res (List D × Ev)} {pos : Pos}
theorem po_none' : PO' M W X none oN := ⟨_, po_none, fun σ G H ε s Q hp => hp none G H s (Step.refl ..) rfl⟩
theorem po_some' (ha : PV M W X a fa) : PO' M W X (some a) (oS fa) := by
  obtain ⟨t, et, qt⟩ := ha
  refine ⟨_, po_some et, Tr.bind (f2 := fun d ε => (asI d).bind fun i => .ok (some i, ε)) (t2 := fun v σ H1 (Q : Option Int → Hp → Prop) => ∃ i, v = .int i ∧ Q (some i) H1) qt ?_⟩
  intro d v σ G H ε s rd Q hp
  cases d with
  | int i => exact ⟨i, rp_int.mp rd, hp (some i) G H s (Step.refl ..) rfl⟩
  | _ => exact hp.elim
/-- the three parts, then the slicing -/
theorem tr_parts {α : Type} {te : TE} {tl th : TO} {fl fh : Ev → Res (Option Int × Ev)} (he : Tr M W (Rp M.F) te f) (hl : Tr M W RO tl fl) (hh : Tr M W RO th fh) {r : V → Option Int → Option Int → Hp → VK → Prop}
    {P : St → Hp → Hp → Ev → Res (α × Ev) → VK → Prop} {op : D → Option Int → Option Int → Res α}
    (hst : ∀ σ G H ε Q, P σ G H ε .stuck Q → False) (herr : ∀ σ G H ε c Q, P σ G H ε (.err c) Q → ErrOk M W G H (Own σ ε) c) (hsh : ∀ {σ G H ε G1 H1 ε1 x Q}, SR M G1 H1 σ ε1 → Step G H (Own σ ε) G1 H1 (Own σ ε1) → P σ G H ε x Q → P σ G1 H1 ε1 x Q)
    (ho : ∀ d v lo hi σ G H ε Q, SR M G H σ ε → Rp M.F G d v → P σ G H ε ((op d lo hi).bind fun x => .ok (x, ε)) Q → r v lo hi H Q) (σ : St) (G H : Hp) (ε : Ev) (s : SR M G H σ ε) (Q : VK)
    (hp : P σ G H ε ((f ε).bind fun p => (fl p.2).bind fun q => (fh q.2).bind fun w => (op p.1 q.1 w.1).bind fun x => .ok (x, w.2)) Q) : tSl r te tl th σ H Q := by
  refine he σ G H ε s _ ?_
  cases e1 : f ε with
  | stuck => rw [e1] at hp; exact (hst _ _ _ _ _ hp).elim
  | err c => rw [e1] at hp; exact herr _ _ _ _ _ _ hp
  | ok p =>
    rw [e1] at hp
    intro v G1 H1 s1 st1 rv
    refine hl σ G1 H1 p.2 s1 _ ?_
    have hp1 : P σ G1 H1 p.2 ((fl p.2).bind fun q => (fh q.2).bind fun w => (op p.1 q.1 w.1).bind fun x => .ok (x, w.2)) Q := hsh s1 st1 hp
    cases e2 : fl p.2 with
    | stuck => rw [e2] at hp1; exact (hst _ _ _ _ _ hp1).elim
    | err c => rw [e2] at hp1; exact herr _ _ _ _ _ _ hp1
    | ok q =>
      rw [e2] at hp1
      intro lo G2 H2 s2 st2 rl
      simp only [RO] at rl
      subst rl
      refine hh σ G2 H2 q.2 s2 _ ?_
      have hp2 : P σ G2 H2 q.2 ((fh q.2).bind fun w => (op p.1 q.1 w.1).bind fun x => .ok (x, w.2)) Q := hsh s2 st2 hp1
      cases e3 : fh q.2 with
      | stuck => rw [e3] at hp2; exact (hst _ _ _ _ _ hp2).elim
      | err c => rw [e3] at hp2; exact herr _ _ _ _ _ _ hp2
      | ok w =>
        rw [e3] at hp2
        intro hi G3 H3 s3 st3 rh
        simp only [RO] at rh
        subst rh
        exact ho p.1 v q.1 w.1 σ G3 H3 w.2 Q s3 ((rv.mono st2.gg).mono st3.gg) (hsh s3 st3 hp2)
theorem pv_slice (c : CO M W k X) {lo hi : Option Expr} {fl fh : Ev → Res (Option Int × Ev)} {p2 : Pos} (he : PV M W X e f) (hl : PO' M W X lo fl) (hh : PO' M W X hi fh) : PV M W X (.Subscript e (.Slice lo hi none p2) pos) (eSl f fl fh) := by
  obtain ⟨te, ee, qe⟩ := he
  obtain ⟨tl, el, ql⟩ := hl
  obtain ⟨th, eh, qh⟩ := hh
  refine ⟨_, pe_slice (r := rSlAll M.F.K) (by rw [← c.hK]; exact sl_all) ee el eh, fun σ G H ε s Q hp => ?_⟩
  refine tr_parts (op := dSl) (P := fun σ G H ε x Q => Post M W σ G H ε (Rp M.F) x Q) qe ql qh (fun _ _ _ _ _ h => h) (fun _ _ _ _ _ _ h => h) (fun s1 st h => Post.shift s1 st h) ?_ σ G H ε s Q hp
  intro d v lo hi σ G H ε Q s rd hp
  cases d with
  | lst ds =>
    obtain ⟨a, vs, rfl, ha, l⟩ := rp_lst.mp rd
    refine .inl ⟨a, vs, rfl, SqL.of (s.sub _ _ ha), fun p hn => ?_⟩
    exact post_new hp s hn (fun ps z => by cases z) (rp_lst.mpr ⟨p, _, rfl, upd_same, (l.cut lo hi).mono (up_mono (s.gnone hn))⟩)
  | tup ds =>
    obtain ⟨a, vs, rfl, ha, l⟩ := rp_tup.mp rd
    refine .inr ⟨a, vs, rfl, sqT_mono s.sub ha, fun z => ?_, fun _ p hn => ?_⟩
    · have e1 : cutD ds lo hi = ds := by
        have hl : ds.length = vs.length := l.length
        unfold cutD
        rw [hl, z.1, z.2, List.drop_zero, Nat.sub_zero, ← hl, List.take_length]
      have hp' : Post M W σ G H ε (Rp M.F) (.ok (.tup (cutD ds lo hi), ε)) Q := hp
      rw [e1] at hp'
      exact post_ok hp' s (rp_tup.mpr ⟨a, vs, rfl, ha, l⟩)
    · exact post_new hp s hn (fun ps z => by cases z) (rp_tup.mpr ⟨p, _, rfl, .inl (.inl upd_same), (l.cut lo hi).mono (up_mono (s.gnone hn))⟩)
  | _ => exact hp.elim
theorem pn_slice (c : CO M W k X) {lo hi : Option Expr} {fl fh : Ev → Res (Option Int × Ev)} {p2 : Pos} (he : PV M W X e f) (hl : PO' M W X lo fl) (hh : PO' M W X hi fh) : PN M W X (.Subscript e (.Slice lo hi none p2) pos) (eSlN f fl fh) := by
  obtain ⟨te, ee, qe⟩ := he
  obtain ⟨tl, el, ql⟩ := hl
  obtain ⟨th, eh, qh⟩ := hh
  refine ⟨_, pe_slice (r := rSlAll M.F.K) (by rw [← c.hK]; exact sl_all) ee el eh, fun σ G H ε s Q hp => ?_⟩
  refine tr_parts (op := dSlN) (P := fun σ G H ε x Q => PostN M W σ G H ε x Q) qe ql qh (fun _ _ _ _ _ h => h) (fun _ _ _ _ _ _ h => h) (fun s1 st h => PostN.shift s1 st h) ?_ σ G H ε s Q hp
  intro d v lo hi σ G H ε Q s rd hp
  cases d with
  | lst ds =>
    obtain ⟨a, vs, rfl, ha, l⟩ := rp_lst.mp rd
    exact .inl ⟨a, vs, rfl, SqL.of (s.sub _ _ ha), fun p hn => postN_new hp s hn (l.cut lo hi)⟩
  | _ => exact hp.elim
end

/-! ### backwards: e[lo:hi:-1] -/
def bIxL (lo hi : Option Int) (n : Nat) : List Nat := sliceRange (sliceBounds lo hi (some (-1)) n).1 (sliceBounds lo hi (some (-1)) n).2.1 (-1)
def bLo (lo hi : Option Int) (n : Nat) : Int := (Builtin.Slice.sliceAdjust lo hi (-1) n).1
def bCount (lo hi : Option Int) (n : Nat) : Nat := Builtin.Slice.slicePlaces (bLo lo hi n) (Builtin.Slice.sliceAdjust lo hi (-1) n).2 (-1)
def bIxT (lo hi : Option Int) (n : Nat) : List Nat := (List.range (bCount lo hi n)).map fun (m : Nat) => (bLo lo hi n + (m : Int) * (-1)).toNat
def pick {α : Type} (ix : List Nat) (xs : List α) : List α := ix.filterMap (xs[·]?)
theorem RpL.pick {F : Fx} {G : Hp} {ds : List D} {vs : List V} (l : RpL F G ds vs) : ∀ ix : List Nat, RpL F G (PL.pick ix ds) (PL.pick ix vs)
  | [] => RpL.nil
  | i :: ix => by
    unfold PL.pick
    have ih := l.pick ix
    unfold PL.pick at ih
    rw [List.filterMap_cons, List.filterMap_cons]
    cases e : ds[i]? with
    | none =>
      have e2 : vs[i]? = none := by
        rw [List.getElem?_eq_none_iff, ← l.length]
        exact List.getElem?_eq_none_iff.mp e
      rw [e2]
      exact ih
    | some d =>
      obtain ⟨v, e2, r⟩ := l.get e
      rw [e2]
      exact RpL.cons r ih
theorem vals_pick {xs : List V} {us : List Value} (l : Vals xs us) : ∀ ix : List Nat, Vals (pick ix xs) (pick ix us)
  | [] => .nil
  | i :: ix => by
    unfold pick
    have ih := vals_pick l ix
    unfold pick at ih
    rw [List.filterMap_cons, List.filterMap_cons]
    cases e : xs[i]? with
    | none => rw [l.none_of e]; exact ih
    | some d =>
      obtain ⟨v, e2, r⟩ := l.get e
      rw [e2]
      exact .cons r ih
theorem pick_len {α : Type} (ix : List Nat) (xs : List α) : (pick ix xs).length ≤ ix.length := List.length_filterMap_le _ _
def dBack : D → Option Int → Option Int → Res D
  | .lst ds, lo, hi => if (bIxL lo hi ds.length).length ≤ 1000000 ∧ ds.length ≤ 1000000 then .ok (.lst (pick (bIxL lo hi ds.length) ds)) else .stuck
  | .tup ds, lo, hi => if bCount lo hi ds.length ≤ 1000000 then .ok (.tup (pick (bIxT lo hi ds.length) ds)) else .stuck
  | _, _, _ => .stuck
@[reducible] def eBack (f : Ev → Res (D × Ev)) (lo hi : Ev → Res (Option Int × Ev)) : Ev → Res (D × Ev) := fun ε =>
  (f ε).bind fun p => (lo p.2).bind fun q => (hi q.2).bind fun r => (dBack p.1 q.1 r.1).bind fun d => .ok (d, r.2)
def rBack (K : PySem.W.Frag) : V → Option Int → Option Int → Hp → VK → Prop := fun x lo hi H Q =>
  (∃ a xs, x = .ref a ∧ SqL K H a xs ∧ (bIxL lo hi xs.length).length ≤ 1000000 ∧ ∀ p, H p = none → Q (.ref p) (upd H p (.lst (pick (bIxL lo hi xs.length) xs)))) ∨
  ∃ a xs, x = .ref a ∧ SqT K H a xs ∧ bCount lo hi xs.length ≤ 1000000 ∧ ∀ p, H p = none → Q (.ref p) (upd H p (.tup (pick (bIxT lo hi xs.length) xs)))
theorem pe_back {X : Cx} {e : Expr} {te : TE} {lo hi : Option Expr} {tl th : TO} {k : Nat} {p1 p2 p3 pos : Pos} (he : PE X e te) (hl : PO X lo tl) (hh : PO X hi th) :
    PE X (.Subscript e (.Slice lo hi (some (.UnaryOp .USub (.Constant (.int 1) k p1) p2)) p3) pos) (tSl (rBack X.K) te tl th) := by
  refine ⟨fun pins s σ H Q I h => ?_⟩
  refine Subscript_ (thn (he.run pins s σ H _ I h) fun v s1 ⟨x, H1, I1, r1, q1⟩ => ?_)
  have hst : PO X (some (.UnaryOp .USub (.Constant (.int 1) k p1) p2)) (tPart (tUn (rU fun i => .int (-i)) (tC (.int 1)))) := po_some (pe_un un_neg pe_int)
  refine wpAny_Slice (thn (hl.run pins s1 σ H1 _ I1 q1) fun vl s2 ⟨l, H2, I2, pl, q2⟩ => ?_)
  refine thn (hh.run pins s2 σ H2 _ I2 q2) fun vu s3 ⟨u, H3, I3, pu, q3⟩ => ?_
  refine thn (hst.run pins s3 σ H3 (fun o H4 => o = some (-1) ∧ H4 = H3) I3 ⟨1, rfl, -1, rfl, rfl, rfl⟩) fun vs s4 ⟨o, H4, I4, ps, eo, e4⟩ => ?_
  subst eo e4
  have I5 : Inv X pins σ H4 { s4 with heap := s4.heap.push { cls := .type "slice", data := .fields #[vl, vu, vs] } } := I4.kept (t' := s4.toks) fun b ob q => Heap.get?_push_of_some _ q
  rcases q3 with ⟨a, xs, rfl, hx, hz0, q⟩ | ⟨a, xs, rfl, hx, hz0, q⟩
  · cases r1
    obtain ⟨its, r, ht, hz⟩ := I5.list hx
    have hlen := r.length
    refine tail_any (ops := [.ref a, .ref s4.heap.objs.size]) ht.isList.typeIs (PySem.slot_list_getitem.lookup) ?_ (by with_unfolding_all rfl)
    refine wpAny_getItem_list_slice ht.isList (Heap.IsSliceOf.new _ vl vu vs) pl pu ps (by decide) ?_ (by rw [List.size_toArray]; omega)
    have e1 : slicePick its.toArray l u (some (-1)) = (pick (bIxL l u xs.length) its).toArray := by
      unfold slicePick pick bIxL
      rw [List.size_toArray, ← hlen]
      congr 2
      funext i
      simp
    rw [e1]
    refine ⟨.ref _, _, I5.laid (t' := s4.toks) (o := .lst (pick (bIxL l u xs.length) xs)) (fun b ob q => Heap.get?_push_of_some _ q) (Nat.le_refl _) ?_, rfl, q _ (I5.hok.fresh (Nat.le_refl _))⟩
    exact ⟨line_big (Nat.le_trans (pick_len _ _) hz0), _, 0, vals_pick r _, Heap.get?_push_size _ rfl⟩
  · cases r1
    obtain ⟨its, r, ht, hz⟩ := I5.tuple hx
    have hlen := r.length
    refine tail_any (ops := [.ref a, .ref s4.heap.objs.size]) ht.typeIs (PyProof.Rows.slot_tuple_getitem.lookup) ?_ (by with_unfolding_all rfl)
    have hsz : its.toArray.size = xs.length := by rw [List.size_toArray, hlen]
    refine tup_slice (a := bLo l u xs.length) (k := bCount l u xs.length) ht (Heap.IsSliceOf.new _ vl vu vs) pl pu ps (by decide) (by rw [hsz]; rfl) (by rw [hsz]; rfl) (fun z => ?_) (fun _ => ?_) (line_big hz0)
    · simp [whole] at z
    · have e1 : ((List.range (bCount l u xs.length)).filterMap fun (m : Nat) => its.toArray[(bLo l u xs.length + (m : Int) * (some (-1 : Int)).getD 1).toNat]?).toArray = (pick (bIxT l u xs.length) its).toArray := by
        unfold pick bIxT
        rw [List.filterMap_map]
        congr 2
        funext i
        simp
      rw [e1]
      refine ⟨.ref _, _, I5.laid (t' := s4.toks) (o := .tup (pick (bIxT l u xs.length) xs)) (fun b ob q => Heap.get?_push_of_some _ q) (Nat.le_refl _) ?_, rfl, q _ (I5.hok.fresh (Nat.le_refl _))⟩
      refine ⟨line_big (Nat.le_trans (pick_len _ _) ?_), _, vals_pick r _, IsTup.new _ _⟩
      unfold bIxT
      rw [List.length_map, List.length_range]
      exact hz0
section
variable {M : Fr} {W : WX} {X : Cx} {k : Nat} {a b e : Expr} {es rest : List Expr} {fa fb f : Ev → Res (D × Ev)} {g : Ev → Res (List D × Ev)} {pos : Pos}
theorem pv_back (c : CO M W k X) {lo hi : Option Expr} {fl fh : Ev → Res (Option Int × Ev)} {j : Nat} {p1 p2 p3 : Pos} (he : PV M W X e f) (hl : PO' M W X lo fl) (hh : PO' M W X hi fh) :
    PV M W X (.Subscript e (.Slice lo hi (some (.UnaryOp .USub (.Constant (.int 1) j p1) p2)) p3) pos) (eBack f fl fh) := by
  obtain ⟨te, ee, qe⟩ := he
  obtain ⟨tl, el, ql⟩ := hl
  obtain ⟨th, eh, qh⟩ := hh
  refine ⟨_, pe_back ee el eh, fun σ G H ε s Q hp => ?_⟩
  refine tr_parts (op := dBack) (P := fun σ G H ε x Q => Post M W σ G H ε (Rp M.F) x Q) qe ql qh (fun _ _ _ _ _ h => h) (fun _ _ _ _ _ _ h => h) (fun s1 st h => Post.shift s1 st h) ?_ σ G H ε s Q hp
  intro d v lo hi σ G H ε Q s rd hp
  cases d with
  | lst ds =>
    obtain ⟨a, vs, rfl, ha, l⟩ := rp_lst.mp rd
    simp only [dBack] at hp
    split at hp
    · rename_i hz
      rw [l.length] at hp hz
      refine .inl ⟨a, vs, rfl, SqL.of (s.sub _ _ ha), hz.1, fun p hn => ?_⟩
      exact post_new hp s hn (fun ps z => by cases z) (rp_lst.mpr ⟨p, _, rfl, upd_same, (l.pick _).mono (up_mono (s.gnone hn))⟩)
    · exact hp.elim
  | tup ds =>
    obtain ⟨a, vs, rfl, ha, l⟩ := rp_tup.mp rd
    simp only [dBack] at hp
    split at hp
    · rename_i hz
      rw [l.length] at hp hz
      refine .inr ⟨a, vs, rfl, by rw [c.hK]; exact sqT_mono s.sub ha, hz, fun p hn => ?_⟩
      exact post_new hp s hn (fun ps z => by cases z) (rp_tup.mpr ⟨p, _, rfl, .inl (.inl upd_same), (l.pick _).mono (up_mono (s.gnone hn))⟩)
    · exact hp.elim
  | _ => exact hp.elim
end
end PL
/-! PL, part f: what is walked, targets, comprehensions. -/
namespace PL
open PySem PySem.Spec PyProof.Rows L2

/-! ### what is walked -/
structure HG (F : Fx) (G H : Hp) : Prop where
  sub : ∀ q o, G q = some o → H q = some o
  ntb : ∀ q ps, G q ≠ some (.tbl ps)
  tabs : LamX.Tabs F.T H
theorem SR.hg {M : Fr} {G H : Hp} {σ : St} {ε : Ev} (s : SR M G H σ ε) : HG M.F G H := ⟨s.sub, s.ntb, s.tabs⟩
theorem Grow.trans {G H G1 H1 G2 H2 : Hp} (a : Grow G H G1 H1) (b : Grow G1 H1 G2 H2) : Grow G H G2 H2 :=
  ⟨fun q o h => b.gg q o (a.gg q o h), fun q o h n => b.hh q o (a.hh q o h n) n, fun q h => a.hs q (b.hs q h), fun q o h => (b.gn q o h).elim (a.gn q o) fun z => .inr (a.hs q z)⟩
theorem HG.new {F : Fx} {G H : Hp} (s : HG F G H) {p : Addr} {o : HO} (hp : H p = none) (ho : ∀ ps, o ≠ .tbl ps) : Grow G H (upd G p o) (upd H p o) ∧ HG F (upd G p o) (upd H p o) := by
  have gp : G p = none := by
    cases q : G p with
    | none => rfl
    | some u => rw [s.sub p u q] at hp; cases hp
  refine ⟨⟨fun q u h => by rw [upd_ne (ne_of_none h gp)]; exact h, fun q u h _ => by rw [upd_ne (ne_of_none h hp)]; exact h, fun q h => ?_, fun q u h => ?_⟩, ⟨fun q u h => ?_, fun q ps h => ?_, s.tabs.ext fun q u h => by rw [upd_ne (ne_of_none h hp)]; exact h⟩⟩
  · unfold upd at h
    split at h
    · cases h
    · exact h
  · unfold upd at h
    split at h
    · rename_i e; subst e; exact .inr hp
    · exact .inl h
  · unfold upd at h ⊢
    split
    · rename_i e; rw [if_pos e] at h; exact h
    · rename_i e; rw [if_neg e] at h; exact s.sub q u h
  · unfold upd at h
    split at h
    · exact ho ps (Option.some.inj h)
    · exact s.ntb q ps h

def ItOk (F : Fx) (J : It) (G1 : Hp) (ds : List D) : Prop := ∀ (i : Nat) (G H : Hp), HG F G H → (∀ q o, G1 q = some o → G q = some o) →
  (∀ d, ds[i]? = some d → J.go i H ∧ ∀ x H', J.yld i H x H' → ∃ G', Grow G H G' H' ∧ HG F G' H' ∧ Rp F G' d x) ∧ (ds.length ≤ i → J.stop i H)
def PIt (M : Fr) (W : WX) (X : Cx) (tg it : Expr) (f : Ev → Res (List D × Ev)) : Prop := ∃ wi, PI X tg it wi ∧ Tr M W (fun G ds J => ItOk M.F J G ds) wi f

theorem pi_or {X : Cx} {tg it : Expr} {w1 w2 : TI} (h1 : PI X tg it w1) (h2 : PI X tg it w2) : PI X tg it (fun σ H R => w1 σ H R ∨ w2 σ H R) :=
  ⟨fun pins s σ H R I h => h.elim (h1.run pins s σ H R I) (h2.run pins s σ H R I)⟩
theorem itOk_list {F : Fx} {K : PySem.W.Frag} {G1 : Hp} {a : Addr} {vs : List V} {ds : List D} (hg : ∀ G H, HG F G H → (∀ q o, G1 q = some o → G q = some o) → ∀ ys, SqL K H a ys → ys = vs) (ha : G1 a = some (.lst vs)) (l : RpL F G1 ds vs) : ItOk F (Itl K a) G1 ds := by
  intro i G H s g1
  have hs : SqL K H a vs := SqL.of (s.sub _ _ (g1 _ _ ha))
  refine ⟨fun d e => ?_, fun e => ⟨vs, hs, by rw [← l.length]; exact e⟩⟩
  obtain ⟨v, e1, r⟩ := l.get e
  refine ⟨⟨vs, v, hs, e1⟩, fun x H' y => ?_⟩
  obtain ⟨rfl, y⟩ := y
  have ex := y vs hs
  rw [e1] at ex
  cases ex
  exact ⟨G, Grow.refl _ _, s, r.mono g1⟩
@[reducible, simp] def dSeq : D → Res (List D)
  | .lst ds => .ok ds
  | .tup ds => .ok ds
  | _ => .stuck
@[reducible, simp] def iSeq (f : Ev → Res (D × Ev)) : Ev → Res (List D × Ev) := fun ε => (f ε).bind fun p => (dSeq p.1).bind fun ds => .ok (ds, p.2)
section
variable {M : Fr} {W : WX} {X : Cx} {k : Nat} {tg a b e : Expr} {es rest : List Expr} {fa fb f : Ev → Res (D × Ev)} {g : Ev → Res (List D × Ev)} {pos : Pos}
theorem pit_seq (c : CO M W k X) (ha : PV M W X e f) : PIt M W X tg e (iSeq f) := by
  obtain ⟨t, et, q⟩ := ha
  refine ⟨_, pi_or (pi_list et) (pi_tup et), fun σ G H ε s Q hp => ?_⟩
  cases e1 : f ε with
  | stuck => simp only [iSeq, e1] at hp; exact hp.elim
  | err cc =>
    refine .inl (q σ G H ε s _ ?_)
    simp only [iSeq, e1] at hp
    rw [e1]; exact hp
  | ok p =>
    obtain ⟨d, ε1⟩ := p
    cases d with
    | lst ds =>
      refine .inl (q σ G H ε s _ ?_)
      simp only [iSeq, e1, Res.bind_ok, dSeq] at hp
      rw [e1]
      intro v G1 H1 s1 st1 r
      obtain ⟨a, vs, rfl, ha, l⟩ := rp_lst.mp r
      refine ⟨a, rfl, ⟨vs, SqL.of (s1.sub _ _ ha)⟩, hp _ G1 H1 s1 st1 ?_⟩
      intro i G2 H2 s2 g2
      have hs : SqL X.K H2 a vs := SqL.of (s2.sub _ _ (g2 _ _ ha))
      refine ⟨fun d e => ?_, fun e => ⟨vs, hs, by rw [← l.length]; exact e⟩⟩
      obtain ⟨v, e1, r⟩ := l.get e
      refine ⟨⟨vs, v, hs, e1⟩, fun x H' y => ?_⟩
      obtain ⟨rfl, y⟩ := y
      have ex := y vs hs
      rw [e1] at ex
      cases ex
      exact ⟨G2, Grow.refl _ _, s2, r.mono g2⟩
    | tup ds =>
      refine .inr (q σ G H ε s _ ?_)
      simp only [iSeq, e1, Res.bind_ok, dSeq] at hp
      rw [e1]
      intro v G1 H1 s1 st1 r
      obtain ⟨a, vs, rfl, ha, l⟩ := rp_tup.mp r
      rw [← c.hK] at ha
      refine ⟨a, rfl, ⟨vs, sqT_mono s1.sub ha⟩, hp _ G1 H1 s1 st1 ?_⟩
      intro i G2 H2 s2 g2
      have hs : SqT X.K H2 a vs := sqT_mono s2.sub (sqT_mono g2 ha)
      refine ⟨fun d e => ?_, fun e => ⟨vs, hs, by rw [← l.length]; exact e⟩⟩
      obtain ⟨v, e1, r⟩ := l.get e
      refine ⟨⟨vs, v, hs, e1⟩, fun x H' y => ?_⟩
      obtain ⟨rfl, y⟩ := y
      have ex := y vs hs
      rw [e1] at ex
      cases ex
      exact ⟨G2, Grow.refl _ _, s2, r.mono g2⟩
    | _ => simp only [iSeq, e1, Res.bind_ok, dSeq] at hp; exact hp.elim

def rgD (lo : Int) (n : Nat) : List D := (List.range n).map fun (i : Nat) => D.int (lo + i)
def fRange : List D → Res (List D)
  | [.int j] => if Nat.ble j.natAbs 1000000000 = true then .ok (rgD 0 j.toNat) else .stuck
  | [.int i, .int j] => if (Nat.ble i.natAbs 1000000000 && Nat.ble j.natAbs 1000000000) = true then .ok (rgD i (j - i).toNat) else .stuck
  | _ => .stuck
theorem itOk_range {F : Fx} {G : Hp} (lo : Int) (n : Nat) : ItOk F (Itr lo n) G (rgD lo n) := by
  intro i G H s g1
  unfold rgD
  refine ⟨fun d e => ?_, fun e => by rw [List.length_map, List.length_range] at e; exact e⟩
  rw [List.getElem?_map] at e
  have hi : i < n := by
    cases q : (List.range n)[i]? with
    | none => rw [q] at e; cases e
    | some j =>
      have := (List.getElem?_eq_some_iff.mp q).1
      rwa [List.length_range] at this
  rw [List.getElem?_range hi] at e
  cases e
  refine ⟨hi, fun x H' y => ?_⟩
  obtain ⟨rfl, rfl⟩ := y
  exact ⟨G, Grow.refl _ _, s, rp_int.mpr rfl⟩
@[reducible, simp] def iCall (g : List D → Res (List D)) (fs : Ev → Res (List D × Ev)) : Ev → Res (List D × Ev) := fun ε => (fs ε).bind fun p => (g p.1).bind fun ds => .ok (ds, p.2)
theorem pit_range1 {p : Pos} {fs} (hm : X.mg "range" = none) (ha : PA' M W X [e] fs) (hg : Gl X "range" := by rfl) (hs : starEach [e] X.env = [(false, eval e X.env)] := by rfl) : PIt M W X tg (.Call (.Name "range" p) [e] [] pos) (iCall fRange fs) := by
  obtain ⟨⟨t, et, qt⟩, hl⟩ := ha
  refine ⟨_, pi_range1 hg hm et hs, fun σ G H ε s Q hp => ?_⟩
  refine qt σ G H ε s _ ?_
  simp only [iCall] at hp
  cases e1 : fs ε with
  | stuck => rw [e1] at hp; exact hp
  | err c => rw [e1] at hp; exact hp
  | ok p =>
    rw [e1] at hp
    intro vs G1 H1 s1 st1 rs
    simp only [Res.bind_ok] at hp
    unfold fRange at hp
    split at hp
    · rename_i j ej
      rw [ej] at rs
      obtain ⟨v, rfl, r⟩ := rpL1 rs
      rw [rp_int] at r; subst r
      split at hp
      · rename_i hj
        replace hj := Nat.ble_eq.mp hj
        refine ⟨j, rfl, by omega, by omega, ?_⟩
        exact hp _ G1 H1 s1 st1 (itOk_range 0 _)
      · exact hp.elim
    · rename_i i j ej
      rw [ej] at rs
      obtain ⟨v, w, rfl, r, r2⟩ := rpL2 rs
      have := hl _ _ e1
      rw [ej] at this
      simp at this
    · exact hp.elim
theorem pit_range2 {e2 : Expr} {p : Pos} {fs} (hm : X.mg "range" = none) (ha : PA' M W X [e, e2] fs) (hg : Gl X "range" := by rfl) (hs : starEach [e, e2] X.env = [(false, eval e X.env), (false, eval e2 X.env)] := by rfl) (hs2 : starEach [e2] X.env = [(false, eval e2 X.env)] := by rfl) : PIt M W X tg (.Call (.Name "range" p) [e, e2] [] pos) (iCall fRange fs) := by
  obtain ⟨⟨t, et, qt⟩, hl⟩ := ha
  refine ⟨_, pi_range2 hg hm et hs hs2, fun σ G H ε s Q hp => ?_⟩
  refine qt σ G H ε s _ ?_
  simp only [iCall] at hp
  cases e1 : fs ε with
  | stuck => rw [e1] at hp; exact hp
  | err c => rw [e1] at hp; exact hp
  | ok p =>
    rw [e1] at hp
    intro vs G1 H1 s1 st1 rs
    simp only [Res.bind_ok] at hp
    unfold fRange at hp
    split at hp
    · rename_i j ej
      have := hl _ _ e1
      rw [ej] at this
      simp at this
    · rename_i i j ej
      rw [ej] at rs
      obtain ⟨v, w, rfl, r, r2⟩ := rpL2 rs
      rw [rp_int] at r r2; subst r r2
      split at hp
      · rename_i hj
        simp only [Bool.and_eq_true, Nat.ble_eq] at hj
        refine ⟨i, j, rfl, ⟨by omega, by omega, by omega, by omega⟩, ?_⟩
        exact hp _ G1 H1 s1 st1 (itOk_range i _)
      · exact hp.elim
    · exact hp.elim

/-! enumerate, zip -/
def enumD : Nat → List D → List D
  | _, [] => []
  | i, d :: ds => .tup [.int i, d] :: enumD (i + 1) ds
theorem enumD_get : ∀ (ds : List D) (n i : Nat) (x : D), (enumD n ds)[i]? = some x → ∃ d, ds[i]? = some d ∧ x = .tup [.int ((n + i : Nat) : Int), d]
  | [], n, i, x, e => by simp [enumD] at e
  | d :: ds, n, 0, x, e => by simp [enumD] at e; exact ⟨d, rfl, e.symm⟩
  | d :: ds, n, i + 1, x, e => by
    simp only [enumD, List.getElem?_cons_succ] at e
    obtain ⟨d', e1, e2⟩ := enumD_get ds (n + 1) i x e
    exact ⟨d', by simpa using e1, by rw [e2, show n + 1 + i = n + (i + 1) by omega]⟩
theorem enumD_len : ∀ (ds : List D) (n : Nat), (enumD n ds).length = ds.length
  | [], _ => rfl
  | d :: ds, n => by simp [enumD, enumD_len ds (n + 1)]
def zipD : List D → List D → List D
  | a :: as, b :: bs => .tup [a, b] :: zipD as bs
  | _, _ => []
theorem zipD_get : ∀ (as bs : List D) (i : Nat) (x : D), (zipD as bs)[i]? = some x → ∃ a b, as[i]? = some a ∧ bs[i]? = some b ∧ x = .tup [a, b]
  | [], _, i, x, e => by simp [zipD] at e
  | _ :: _, [], i, x, e => by simp [zipD] at e
  | a :: as, b :: bs, 0, x, e => by simp [zipD] at e; exact ⟨a, b, rfl, rfl, e.symm⟩
  | a :: as, b :: bs, i + 1, x, e => by
    simp only [zipD, List.getElem?_cons_succ] at e
    obtain ⟨a', b', e1, e2, e3⟩ := zipD_get as bs i x e
    exact ⟨a', b', by simpa using e1, by simpa using e2, e3⟩
theorem zipD_len : ∀ (as bs : List D), (zipD as bs).length = min as.length bs.length
  | [], _ => by simp [zipD]
  | _ :: _, [] => by simp [zipD]
  | a :: as, b :: bs => by simp [zipD, zipD_len as bs, Nat.succ_min_succ]
/-- a new pair of known things -/
theorem new_pair {F : Fx} {G H : Hp} (s : HG F G H) {T : Addr} {d e : D} {x y : V} (hT : H T = none) (r1 : Rp F G d x) (r2 : Rp F G e y) :
    ∃ G', Grow G H G' (upd H T (.tup [x, y])) ∧ HG F G' (upd H T (.tup [x, y])) ∧ Rp F G' (.tup [d, e]) (.ref T) := by
  obtain ⟨g, h⟩ := s.new (o := .tup [x, y]) hT (fun ps z => by cases z)
  exact ⟨_, g, h, rp_tup.mpr ⟨T, _, rfl, .inl (.inl upd_same), RpL.cons (r1.mono g.gg) (RpL.cons (r2.mono g.gg) RpL.nil)⟩⟩
def fEnumL : List D → Res (List D)
  | [.lst ds] => .ok (enumD 0 ds)
  | _ => .stuck
theorem pit_enumL (c : CO M W k X) {p tpos : Pos} {elts : List Expr} {kk : Nat} {fs} (hm : X.mg "enumerate" = none) (ha : PA' M W X [e] fs) (hg : Gl X "enumerate" := by rfl) (hs : starEach [e] X.env = [(false, eval e X.env)] := by rfl) :
    PIt M W X (.Tuple elts kk tpos) (.Call (.Name "enumerate" p) [e] [] pos) (iCall fEnumL fs) := by
  obtain ⟨⟨t, et, qt⟩, hl⟩ := ha
  refine ⟨_, pi_enum hg hm et hs, fun σ G H ε s Q hp => ?_⟩
  refine qt σ G H ε s _ ?_
  simp only [iCall] at hp
  cases e1 : fs ε with
  | stuck => rw [e1] at hp; exact hp
  | err c => rw [e1] at hp; exact hp
  | ok p =>
    rw [e1] at hp
    intro vs G1 H1 s1 st1 rs
    simp only [Res.bind_ok] at hp
    unfold fEnumL at hp
    split at hp
    · rename_i ds ej
      rw [ej] at rs
      obtain ⟨v, rfl, r⟩ := rpL1 rs
      obtain ⟨a, ws, rfl, ha, l⟩ := rp_lst.mp r
      refine ⟨a, ws, rfl, SqL.of (s1.sub _ _ ha), hp _ G1 H1 s1 st1 ?_⟩
      intro i G2 H2 s2 g2
      have hs : SqL X.K H2 a ws := SqL.of (s2.sub _ _ (g2 _ _ ha))
      refine ⟨fun d e => ?_, fun e => ⟨ws, hs, by rw [← l.length]; rw [enumD_len] at e; exact e⟩⟩
      obtain ⟨d0, e2, rfl⟩ := enumD_get ds 0 i d e
      obtain ⟨v, e3, r⟩ := l.get e2
      refine ⟨⟨ws, v, hs, e3⟩, fun x H' y => ?_⟩
      obtain ⟨T, x0, rfl, hT, rfl, y⟩ := y
      have ex := y ws hs
      rw [e3] at ex
      cases ex
      exact new_pair s2 hT (rp_int.mpr (by simp)) (r.mono g2)
    · exact hp.elim
@[simp] def fZip : List D → Res (List D)
  | [.lst as, .lst bs] => .ok (zipD as bs)
  | [.tup as, .tup bs] => .ok (zipD as bs)
  | _ => .stuck
theorem pit_zip (c : CO M W k X) {e2 : Expr} {p tpos : Pos} {elts : List Expr} {kk : Nat} {fs} (hm : X.mg "zip" = none) (ha : PA' M W X [e, e2] fs) (hg : Gl X "zip" := by rfl)
    (hs : starEach [e, e2] X.env = (false, eval e X.env) :: starEach [e2] X.env := by rfl) (hpl : (backTo pos (starEach [e2] X.env)).any (·.1) = false := by rfl) :
    PIt M W X (.Tuple elts kk tpos) (.Call (.Name "zip" p) [e, e2] [] pos) (iCall fZip fs) := by
  obtain ⟨⟨t, et, qt⟩, hl⟩ := ha
  refine ⟨_, RZ.pi_zipA hg hm et hs hpl, fun σ G H ε s Q hp => ?_⟩
  refine qt σ G H ε s _ ?_
  simp only [iCall] at hp
  cases e1 : fs ε with
  | stuck => rw [e1] at hp; exact hp
  | err c => rw [e1] at hp; exact hp
  | ok p =>
    rw [e1] at hp
    intro vs G1 H1 s1 st1 rs
    simp only [Res.bind_ok] at hp
    unfold fZip at hp
    split at hp
    · rename_i as bs ej
      rw [ej] at rs
      obtain ⟨v, w, rfl, r, r2⟩ := rpL2 rs
      obtain ⟨a, xs, rfl, ha, l⟩ := rp_lst.mp r
      obtain ⟨b, ys, rfl, hb, l2⟩ := rp_lst.mp r2
      refine ⟨a, b, xs, ys, rfl, .inl ⟨SqL.of (s1.sub _ _ ha), SqL.of (s1.sub _ _ hb), hp _ G1 H1 s1 st1 ?_⟩⟩
      intro i G2 H2 s2 g2
      have hx : SqL X.K H2 a xs := SqL.of (s2.sub _ _ (g2 _ _ ha))
      have hy : SqL X.K H2 b ys := SqL.of (s2.sub _ _ (g2 _ _ hb))
      refine ⟨fun d e => ?_, fun e => ⟨xs, ys, hx, hy, by rw [← l.length, ← l2.length]; rw [zipD_len] at e; omega⟩⟩
      obtain ⟨d1, d2, e2, e3, rfl⟩ := zipD_get as bs i d e
      obtain ⟨v1, e4, r4⟩ := l.get e2
      obtain ⟨v2, e5, r5⟩ := l2.get e3
      refine ⟨⟨xs, ys, v1, v2, hx, hy, e4, e5⟩, fun x H' y => ?_⟩
      obtain ⟨T, x1, x2, rfl, hT, rfl, y1, y2⟩ := y
      have ex1 := y1 xs hx
      have ex2 := y2 ys hy
      rw [e4] at ex1
      rw [e5] at ex2
      cases ex1
      cases ex2
      exact new_pair s2 hT (r4.mono g2) (r5.mono g2)
    · rename_i as bs ej
      rw [ej] at rs
      obtain ⟨v, w, rfl, r, r2⟩ := rpL2 rs
      obtain ⟨a, xs, rfl, ha, l⟩ := rp_tup.mp r
      obtain ⟨b, ys, rfl, hb, l2⟩ := rp_tup.mp r2
      rw [← c.hK] at ha hb
      refine ⟨a, b, xs, ys, rfl, .inr ⟨sqT_mono s1.sub ha, sqT_mono s1.sub hb, hp _ G1 H1 s1 st1 ?_⟩⟩
      intro i G2 H2 s2 g2
      have hx : SqT X.K H2 a xs := sqT_mono s2.sub (sqT_mono g2 ha)
      have hy : SqT X.K H2 b ys := sqT_mono s2.sub (sqT_mono g2 hb)
      refine ⟨fun d e => ?_, fun e => ⟨xs, ys, hx, hy, by rw [← l.length, ← l2.length]; rw [zipD_len] at e; omega⟩⟩
      obtain ⟨d1, d2, e2, e3, rfl⟩ := zipD_get as bs i d e
      obtain ⟨v1, e4, r4⟩ := l.get e2
      obtain ⟨v2, e5, r5⟩ := l2.get e3
      refine ⟨⟨xs, ys, v1, v2, hx, hy, e4, e5⟩, fun x H' y => ?_⟩
      obtain ⟨T, x1, x2, rfl, hT, rfl, y1, y2⟩ := y
      have ex1 := y1 xs hx
      have ex2 := y2 ys hy
      rw [e4] at ex1
      rw [e5] at ex2
      cases ex1
      cases ex2
      exact new_pair s2 hT (r4.mono g2) (r5.mono g2)
    · exact hp.elim
end

/-! ### targets -/
/-- a target: the slots it stores to, and what it makes of them -/
def TgOk (M : Fr) (g : TG) (f : D → Ev → Res Ev) (is : List Nat) : Prop :=
  ∀ (d : D) (v : V) (σ : St) (G H : Hp) (ε ε' : Ev), SR M G H σ ε → Rp M.F G d v → f d ε = .ok ε' → ∀ Q : St → Hp → Prop,
    (∀ σ', SR M G H σ' ε' → (∀ q, Own σ' ε' q → Own σ ε q) → (∀ i, i ∉ is → σ'[i]? = σ[i]? ∧ ε'[i]? = ε[i]?) → σ'.length = σ.length → Q σ' H) → g v σ H Q
def TgsOk (M : Fr) (g : TGs) (f : List D → Ev → Res Ev) (is : List Nat) : Prop :=
  ∀ (ds : List D) (vs : List V) (σ : St) (G H : Hp) (ε ε' : Ev), SR M G H σ ε → RpL M.F G ds vs → f ds ε = .ok ε' → ∀ Q : St → Hp → Prop,
    (∀ σ', SR M G H σ' ε' → (∀ q, Own σ' ε' q → Own σ ε q) → (∀ i, i ∉ is → σ'[i]? = σ[i]? ∧ ε'[i]? = ε[i]?) → σ'.length = σ.length → Q σ' H) → g vs σ H Q
def PTg (M : Fr) (X : Cx) (tg : Expr) (f : D → Ev → Res Ev) (is : List Nat) : Prop := ∃ g, PG X tg g ∧ TgOk M g f is
def PTgs (M : Fr) (X : Cx) (tgs : List Expr) (f : List D → Ev → Res Ev) (is : List Nat) : Prop := ∃ g, PGs X tgs g ∧ TgsOk M g f is ∧ ∀ ds ε ε', f ds ε = .ok ε' → ds.length = tgs.length
@[reducible, simp] def tName (i : Nat) (d : D) (ε : Ev) : Res Ev := if i < ε.length then .ok (ε.set i (.pu d)) else .stuck
@[reducible, simp] def tsNil (ds : List D) (ε : Ev) : Res Ev := match ds with
  | [] => .ok ε
  | _ => .stuck
@[reducible, simp] def tsCons (f : D → Ev → Res Ev) (g : List D → Ev → Res Ev) (ds : List D) (ε : Ev) : Res Ev := match ds with
  | d :: r => (f d ε).bind fun ε1 => g r ε1
  | _ => .stuck
@[reducible, simp] def tTupD (g : List D → Ev → Res Ev) (d : D) (ε : Ev) : Res Ev := match d with
  | .tup ds => g ds ε
  | _ => .stuck

theorem SR.setPu {M : Fr} {G H : Hp} {σ : St} {ε : Ev} (s : SR M G H σ ε) {i : Nat} {d : D} {v : V} (hi : i < ε.length) (r : Rp M.F G d v) (hc : M.cp = none ∨ i ≠ 0) :
    SR M G H (σ.set i (some v)) (ε.set i (.pu d)) ∧ ∀ q, Own (σ.set i (some v)) (ε.set i (.pu d)) q → Own σ ε q := by
  have hσ : i < σ.length := by rw [← s.len]; exact hi
  have own : ∀ (j : Nat) (ds : List D), (ε.set i (.pu d))[j]? = some (.ow ds) → j ≠ i ∧ ε[j]? = some (.ow ds) := fun j ds e => by
    by_cases hj : j = i
    · subst hj
      rw [List.getElem?_set_self hi] at e
      cases e
    · rw [List.getElem?_set_ne (Ne.symm hj)] at e
      exact ⟨hj, e⟩
  have at_ : ∀ (j : Nat), j ≠ i → (σ.set i (some v))[j]? = σ[j]? := fun j hj => List.getElem?_set_ne (Ne.symm hj)
  refine ⟨⟨s.sub, s.ntb, s.tabs, by rw [List.length_set, List.length_set]; exact s.len, fun j x o e1 e2 => ?_, fun j l ds es q e1 e2 e3 e4 => ?_, fun p hp => ?_⟩, fun q ⟨j, ds, e1, e2⟩ => ?_⟩
  · by_cases hj : j = i
    · subst hj
      rw [List.getElem?_set_self hi] at e1
      rw [List.getElem?_set_self hσ] at e2
      cases e1
      cases e2
      exact ⟨v, rfl, r⟩
    · rw [List.getElem?_set_ne (Ne.symm hj)] at e1 e2
      exact s.slots j x o e1 e2
  · obtain ⟨h1, e1⟩ := own j ds e1
    obtain ⟨h2, e2⟩ := own l es e2
    rw [at_ j h1] at e3
    rw [at_ l h2] at e4
    exact s.inj j l ds es q e1 e2 e3 e4
  · obtain ⟨a, ds, b⟩ := s.cup p hp
    have h0 : (0 : Nat) ≠ i := fun e => by
      rcases hc with z | z
      · rw [z] at hp; cases hp
      · exact z e.symm
    rw [at_ 0 h0, List.getElem?_set_ne (Ne.symm h0)]
    exact ⟨a, ds, b⟩
  · obtain ⟨h1, e1⟩ := own j ds e1
    rw [at_ j h1] at e2
    exact ⟨j, ds, e1, e2⟩
section
variable {M : Fr} {W : WX} {X : Cx} {k : Nat} {tg a b e : Expr} {es rest : List Expr} {fa fb f : Ev → Res (D × Ev)} {g : Ev → Res (List D × Ev)} {pos : Pos}
theorem ptg_name {i : Nat} {x : Str} (hN : X.N.Nodup) (hc : M.cp = none ∨ i ≠ 0) (hi : X.N[i]? = some x := by rfl) (hx : Loc X.env.scope x := by first | exact Or.inl rfl | exact Or.inr rfl) (hf : X.fn x = true ∨ X.env.scope.names.lookup x = some .local := by first | exact .inl rfl | exact .inr rfl | assumption) : PTg M X (.Name x pos) (tName i) [i] := by
  refine ⟨_, pg_name hN hi hx hf, fun d v σ G H ε ε' s r h Q hq => ?_⟩
  unfold tName at h
  split at h
  · rename_i hl
    cases h
    obtain ⟨s2, o⟩ := s.setPu hl r hc
    refine hq _ s2 o (fun j hj => ?_) (by rw [List.length_set])
    have hj' : i ≠ j := fun e => hj (by rw [e]; simp)
    exact ⟨List.getElem?_set_ne hj', List.getElem?_set_ne hj'⟩
  · cases h
theorem ptgs_nil : PTgs M X [] tsNil [] := by
  refine ⟨_, pgs_nil, fun ds vs σ G H ε ε' s r h Q hq => ?_, fun ds ε ε' h => ?_⟩
  · cases ds with
    | nil =>
      cases h
      exact ⟨r.of_nil, hq σ s (fun _ h => h) (fun _ _ => ⟨rfl, rfl⟩) rfl⟩
    | cons d ds => cases h
  · cases ds with
    | nil => rfl
    | cons d ds => cases h
theorem ptgs_cons {e : Expr} {es : List Expr} {f1 : D → Ev → Res Ev} {f2 : List D → Ev → Res Ev} {is js : List Nat} (h1 : PTg M X e f1 is) (h2 : PTgs M X es f2 js)
    (hs : (assignEach (e :: es) X.env).map (·.2) = assign e X.env :: (assignEach es X.env).map (·.2) := by rfl) : PTgs M X (e :: es) (tsCons f1 f2) (is ++ js) := by
  obtain ⟨g1, p1, q1⟩ := h1
  obtain ⟨g2, p2, q2, l2⟩ := h2
  refine ⟨_, pgs_cons p1 p2 hs, fun ds vs σ G H ε ε' s r h Q hq => ?_, fun ds ε ε' h => ?_⟩
  · cases ds with
    | nil => cases h
    | cons d ds =>
      obtain ⟨v, ws, rfl, rv, rl⟩ := r.of_cons
      cases e1 : f1 d ε with
      | stuck => simp only [tsCons, e1] at h; cases h
      | err c => simp only [tsCons, e1] at h; cases h
      | ok ε1 =>
        have h' : f2 ds ε1 = .ok ε' := by simpa only [tsCons, e1, Res.bind_ok] using h
        refine ⟨v, ws, rfl, q1 d v σ G H ε ε1 s rv e1 _ fun σ1 s1 o1 k1 n1 => ?_⟩
        refine q2 ds ws σ1 G H ε1 ε' s1 rl h' Q fun σ2 s2 o2 k2 n2 => ?_
        refine hq σ2 s2 (fun q z => o1 q (o2 q z)) (fun i hi => ?_) (n2.trans n1)
        have hi' : i ∉ is ∧ i ∉ js := by simpa only [List.mem_append, not_or] using hi
        exact ⟨(k2 i hi'.2).1.trans (k1 i hi'.1).1, (k2 i hi'.2).2.trans (k1 i hi'.1).2⟩
  · cases ds with
    | nil => cases h
    | cons d ds =>
      cases e1 : f1 d ε with
      | stuck => simp only [tsCons, e1] at h; cases h
      | err c => simp only [tsCons, e1] at h; cases h
      | ok ε1 =>
        have h' : f2 ds ε1 = .ok ε' := by simpa only [tsCons, e1, Res.bind_ok] using h
        simp [l2 ds ε1 ε' h']
theorem ptg_tup (c : CO M W k X) {es : List Expr} {kk : Nat} {f2 : List D → Ev → Res Ev} {is : List Nat} (h : PTgs M X es f2 is) (hn : (assignEach es X.env).length = es.length := by rfl) (hst : (assignEach es X.env).findIdx? (·.1) = none := by rfl) : PTg M X (.Tuple es kk pos) (tTupD f2) is := by
  obtain ⟨g, p, q, l⟩ := h
  refine ⟨_, pg_tup c.calm p hn hst, fun d v σ G H ε ε' s r h Q hq => ?_⟩
  cases d with
  | tup ds =>
    obtain ⟨a, vs, rfl, ha, rl⟩ := rp_tup.mp r
    refine ⟨a, vs, rfl, by rw [c.hK]; exact sqT_mono s.sub ha, ?_, q ds vs σ G H ε ε' s rl h Q hq⟩
    rw [← rl.length]
    exact l ds ε ε' h
  | _ => cases h
end
end PL
/-! PL, part g: comprehensions. -/
namespace PL
open PySem PySem.Spec PyProof.Rows L2

/-! ### one reading for a function -/
def tOf {α β : Type} (M : Fr) (W : WX) (R : Hp → β → α → Prop) (f : Ev → Res (β × Ev)) : St → Hp → (α → Hp → Prop) → Prop := fun σ H Q => ∃ G ε, SR M G H σ ε ∧ Post M W σ G H ε R (f ε) Q
theorem PV.pe {M : Fr} {W : WX} {X : Cx} {e : Expr} {f : Ev → Res (D × Ev)} (h : PV M W X e f) : PE X e (tOf M W (Rp M.F) f) := by
  obtain ⟨t, et, q⟩ := h
  exact ⟨fun pins s σ H Q I ⟨G, ε, r, p⟩ => et.run pins s σ H Q I (q σ G H ε r Q p)⟩
theorem PB.pt {M : Fr} {W : WX} {X : Cx} {e : Expr} {f : Ev → Res (Bool × Ev)} (h : PB M W X e f) : PT X e (tOf M W RB f) := by
  obtain ⟨t, et, q⟩ := h
  exact ⟨fun pins s σ H Q I ⟨G, ε, r, p⟩ => et.run pins s σ H Q I (q σ G H ε r Q p)⟩
def gOf (M : Fr) (f : D → Ev → Res Ev) (is : List Nat) : TG := fun v σ H Q => ∃ G ε d ε', SR M G H σ ε ∧ Rp M.F G d v ∧ f d ε = .ok ε' ∧
  ∀ σ', SR M G H σ' ε' → (∀ q, Own σ' ε' q → Own σ ε q) → (∀ i, i ∉ is → σ'[i]? = σ[i]? ∧ ε'[i]? = ε[i]?) → σ'.length = σ.length → Q σ' H
theorem PTg.pg {M : Fr} {X : Cx} {tg : Expr} {f : D → Ev → Res Ev} {is : List Nat} (h : PTg M X tg f is) : PG X tg (gOf M f is) := by
  obtain ⟨g, p, q⟩ := h
  exact ⟨fun pins s σ H v u Q I r ⟨G, ε, d, ε', sr, rd, e, k⟩ => p.run pins s σ H v u Q I r (q d v σ G H ε ε' sr rd e Q k)⟩

/-- the test of a comprehension: none or one -/
def PTs' (M : Fr) (W : WX) (X : Cx) (ifs : List Expr) (f : Ev → Res (Bool × Ev)) : Prop := PTs X ifs (tOf M W RB f)
theorem pts_nil' {M : Fr} {W : WX} {X : Cx} : PTs' M W X [] (fun ε => .ok (true, ε)) := by
  refine ⟨fun pins s σ H Q I ⟨G, ε, r, p⟩ => ?_⟩
  exact pts_nil.run pins s σ H Q I (p true G H r (Step.refl ..) rfl)
theorem pts_one' {M : Fr} {W : WX} {X : Cx} {c : Expr} {f : Ev → Res (Bool × Ev)} (h : PB M W X c f) : PTs' M W X [c] f := pts_one h.pt

/-! ### the slots of a block -/
@[simp] def wipeE (ε : Ev) : List Nat → Ev
  | [] => ε
  | v :: vs => (wipeE ε vs).set v .em
@[simp] def backE (ε ε2 : Ev) : List Nat → Ev
  | [] => ε2
  | v :: vs => (backE ε ε2 vs).set v (ε.getD v .em)
@[simp] def slotFree (ε : Ev) (v : Nat) : Bool := match ε[v]? with
  | some .em => true
  | some (.pu _) => true
  | _ => false
@[simp] def noOw (ε : Ev) (vs : List Nat) : Bool := vs.all (slotFree ε)
theorem wipeE_len (ε : Ev) : ∀ vs, (wipeE ε vs).length = ε.length
  | [] => rfl
  | v :: vs => by unfold wipeE; rw [List.length_set, wipeE_len ε vs]
theorem wipeE_in {ε : Ev} {i : Nat} {x : Slot} : ∀ {vs : List Nat}, i ∈ vs → (wipeE ε vs)[i]? = some x → x = .em
  | [], h, _ => by simp at h
  | v :: vs, h, e => by
    unfold wipeE at e
    by_cases hv : v = i
    · subst hv
      have hl : v < (wipeE ε vs).length := by
        have := (List.getElem?_eq_some_iff.mp e).1
        rwa [List.length_set] at this
      rw [List.getElem?_set_self hl] at e
      exact (Option.some.inj e).symm
    · rw [List.getElem?_set_ne hv] at e
      exact wipeE_in ((List.mem_cons.mp h).resolve_left fun z => hv z.symm) e
theorem wipeE_out {ε : Ev} {i : Nat} : ∀ {vs : List Nat}, i ∉ vs → (wipeE ε vs)[i]? = ε[i]?
  | [], _ => rfl
  | v :: vs, h => by
    unfold wipeE
    have h' : i ≠ v ∧ i ∉ vs := by simpa only [List.mem_cons, not_or] using h
    rw [List.getElem?_set_ne (Ne.symm h'.1)]
    exact wipeE_out h'.2
theorem wipe_out' {σ : St} {i : Nat} : ∀ {vs : List Nat}, i ∉ vs → (wipe σ vs)[i]? = σ[i]?
  | [], _ => rfl
  | v :: vs, h => by
    unfold wipe
    have h' : i ≠ v ∧ i ∉ vs := by simpa only [List.mem_cons, not_or] using h
    rw [List.getElem?_set_ne (Ne.symm h'.1)]
    exact wipe_out' h'.2
theorem backE_len (ε ε2 : Ev) : ∀ vs, (backE ε ε2 vs).length = ε2.length
  | [] => rfl
  | v :: vs => by unfold backE; rw [List.length_set, backE_len ε ε2 vs]
theorem backE_out {ε ε2 : Ev} {i : Nat} : ∀ {vs : List Nat}, i ∉ vs → (backE ε ε2 vs)[i]? = ε2[i]?
  | [], _ => rfl
  | v :: vs, h => by
    unfold backE
    have h' : i ≠ v ∧ i ∉ vs := by simpa only [List.mem_cons, not_or] using h
    rw [List.getElem?_set_ne (Ne.symm h'.1)]
    exact backE_out h'.2
theorem backE_in {ε ε2 : Ev} {i : Nat} {x : Slot} (hl : ε.length = ε2.length) : ∀ {vs : List Nat}, i ∈ vs → (backE ε ε2 vs)[i]? = some x → ε[i]? = some x
  | [], h, _ => by simp at h
  | v :: vs, h, e => by
    unfold backE at e
    by_cases hv : v = i
    · subst hv
      have h2 : v < (backE ε ε2 vs).length := by
        have := (List.getElem?_eq_some_iff.mp e).1
        rwa [List.length_set] at this
      rw [List.getElem?_set_self h2] at e
      have h3 : v < ε.length := by rw [backE_len] at h2; omega
      rw [List.getD_eq_getElem?_getD, List.getElem?_eq_getElem h3] at e
      rw [List.getElem?_eq_getElem h3]
      exact e
    · rw [List.getElem?_set_ne hv] at e
      exact backE_in hl ((List.mem_cons.mp h).resolve_left fun z => hv z.symm) e

/-- entering a block -/
theorem SR.wipe {M : Fr} {G H : Hp} {σ : St} {ε : Ev} (s : SR M G H σ ε) {vs : List Nat} (hc : M.cp = none ∨ 0 ∉ vs) : SR M G H (L2.wipe σ vs) (wipeE ε vs) ∧ ∀ q, Own (L2.wipe σ vs) (wipeE ε vs) q → Own σ ε q := by
  have own : ∀ (j : Nat) (ds : List D), (wipeE ε vs)[j]? = some (.ow ds) → j ∉ vs ∧ ε[j]? = some (.ow ds) := fun j ds e => by
    have h : j ∉ vs := fun z => by have := wipeE_in z e; cases this
    rw [wipeE_out h] at e
    exact ⟨h, e⟩
  refine ⟨⟨s.sub, s.ntb, s.tabs, by rw [wipeE_len, wipe_length]; exact s.len, fun j x o e1 e2 => ?_, fun j l ds es q e1 e2 e3 e4 => ?_, fun p hp => ?_⟩, fun q ⟨j, ds, e1, e2⟩ => ?_⟩
  · by_cases hj : j ∈ vs
    · rw [wipeE_in hj e1]; trivial
    · rw [wipeE_out hj] at e1
      rw [wipe_out' hj] at e2
      exact s.slots j x o e1 e2
  · obtain ⟨h1, e1⟩ := own j ds e1
    obtain ⟨h2, e2⟩ := own l es e2
    rw [wipe_out' h1] at e3
    rw [wipe_out' h2] at e4
    exact s.inj j l ds es q e1 e2 e3 e4
  · obtain ⟨a, ds, b⟩ := s.cup p hp
    have h0 : 0 ∉ vs := by
      rcases hc with z | z
      · rw [z] at hp; cases hp
      · exact z
    rw [wipe_out' h0, wipeE_out h0]
    exact ⟨a, ds, b⟩
  · obtain ⟨h1, e1⟩ := own j ds e1
    rw [wipe_out' h1] at e2
    exact ⟨j, ds, e1, e2⟩
/-- leaving it -/
theorem SR.back {M : Fr} {G H G2 H2 : Hp} {σ σ2 : St} {ε ε2 : Ev} {vs : List Nat} (s : SR M G H σ ε) (s2 : SR M G2 H2 σ2 ε2) (gg : ∀ q o, G q = some o → G2 q = some o) (hn : noOw ε vs = true) (hw : L2.wipe σ2 vs = L2.wipe σ vs) (hl : σ2.length = σ.length) :
    SR M G2 H2 σ (backE ε ε2 vs) ∧ ∀ q, Own σ (backE ε ε2 vs) q → Own σ2 ε2 q := by
  have hlen : ε.length = ε2.length := by rw [s.len, s2.len, hl]
  have eqσ : ∀ j, j ∉ vs → σ2[j]? = σ[j]? := fun j h => by
    rw [← wipe_out' (σ := σ2) h, hw, wipe_out' h]
  have free : ∀ j ∈ vs, ∀ ds, ε[j]? ≠ some (.ow ds) := fun j hj ds e => by
    have := List.all_eq_true.mp hn j hj
    simp [slotFree, e] at this
  have own : ∀ (j : Nat) (ds : List D), (backE ε ε2 vs)[j]? = some (.ow ds) → j ∉ vs ∧ ε2[j]? = some (.ow ds) := fun j ds e => by
    have h : j ∉ vs := fun z => free j z ds (backE_in hlen z e)
    rw [backE_out h] at e
    exact ⟨h, e⟩
  refine ⟨⟨s2.sub, s2.ntb, s2.tabs, by rw [backE_len, ← hlen]; exact s.len, fun j x o e1 e2 => ?_, fun j l ds es q e1 e2 e3 e4 => ?_, fun p hp => ?_⟩, fun q ⟨j, ds, e1, e2⟩ => ?_⟩
  · by_cases hj : j ∈ vs
    · have e3 := backE_in hlen hj e1
      have h := s.slots j x o e3 e2
      cases x with
      | em => trivial
      | pu d =>
        obtain ⟨v, e, r⟩ := h
        exact ⟨v, e, r.mono gg⟩
      | ow ds => exact absurd e3 (free j hj ds)
    · rw [backE_out hj] at e1
      rw [← eqσ j hj] at e2
      exact s2.slots j x o e1 e2
  · obtain ⟨h1, e1⟩ := own j ds e1
    obtain ⟨h2, e2⟩ := own l es e2
    rw [← eqσ j h1] at e3
    rw [← eqσ l h2] at e4
    exact s2.inj j l ds es q e1 e2 e3 e4
  · obtain ⟨a, ds, b⟩ := s2.cup p hp
    obtain ⟨a', ds', b'⟩ := s.cup p hp
    have h0 : 0 ∉ vs := fun z => free 0 z ds' b'
    rw [backE_out h0]
    exact ⟨a', ds, b⟩
  · obtain ⟨h1, e1⟩ := own j ds e1
    rw [← eqσ j h1] at e2
    exact ⟨j, ds, e1, e2⟩

/-! ### the loop -/
@[simp] def Res.ne {α : Type} : Res α → Res α
  | .ok a => .ok a
  | _ => .stuck
@[simp] theorem Res.ne_ok {α : Type} (a : α) : (Res.ok a).ne = .ok a := rfl
@[simp] theorem Res.ne_err {α : Type} (c : Nat) : (Res.err c : Res α).ne = .stuck := rfl
@[simp] theorem Res.ne_stuck {α : Type} : (Res.stuck : Res α).ne = .stuck := rfl
@[simp] def blkF (vs : List Nat) (tgt : D → Ev → Res Ev) (test : Ev → Res (Bool × Ev)) (elt : Ev → Res (D × Ev)) (x : D) (ε : Ev) : Res (Option D × Ev) :=
  (tgt x (wipeE ε vs)).bind fun ε1 => (test ε1).bind fun b => if b.1 then (elt b.2).bind fun r => .ok (some r.1, backE ε r.2 vs) else .ok (none, backE ε b.2 vs)
@[simp] def accD (acc : List D) : Option D → List D
  | some y => acc ++ [y]
  | none => acc
def loopC (vs : List Nat) (blk : D → Ev → Res (Option D × Ev)) : List D → Ev → List D → Res (List D × Ev)
  | [], ε, acc => .ok (acc, ε)
  | x :: xs, ε, acc => if noOw ε vs then (blk x ε).ne.bind fun p => loopC vs blk xs p.2 (accD acc p.1) else .stuck
def eComp (vs : List Nat) (src : Ev → Res (List D × Ev)) (tgt : D → Ev → Res Ev) (test : Ev → Res (Bool × Ev)) (elt : Ev → Res (D × Ev)) : Ev → Res (List D × Ev) := fun ε =>
  (src ε).bind fun p => if p.1.length ≤ 1000000 then loopC vs (blkF vs tgt test elt) p.1 p.2 [] else .stuck
abbrev W0 : WX := fun _ _ _ _ => False

theorem takes00 {X : Cx} : L2N.Takes X W0 := fun _ _ x => by
  obtain ⟨_, _, _, _, _, _, _, _, _, _, _, _, _, _, _, _, z⟩ := x
  exact z.elim
theorem CO.blk {M : Fr} {W : WX} {k : Nat} {X : Cx} (c : CO M W k X) (s : Shared) (H : Hp) (scope : Scope) (env : Env) (fp : List Addr) : CO M W0 k (X.blk s H scope env fp) :=
  ⟨c.hK, c.calm, takes00, c.nd, c.hr, PassesOwn.never⟩
theorem errOk_never {M : Fr} {G H : Hp} {σ : St} {ε : Ev} {c : Nat} (s : SR M G H σ ε) (h : ErrOk M W0 G H (Own σ ε) c) : False := h σ G H ε s (Step.refl ..)

/-- the invariant of a comprehension's loop -/
structure LcInv (M : Fr) (σ : St) (G0 H0 : Hp) (O0 : Addr → Prop) (G1 : Hp) (ds : List D) (vs : List Nat) (blk : D → Ev → Res (Option D × Ev)) (r : Res (List D × Ev)) (A : Addr) (i m : Nat) (H : Hp) (G : Hp) (ε : Ev) (acc : List D) (av : List V) : Prop where
  hm : m = ds.length - i
  hi : i ≤ ds.length
  sr : SR M G H σ ε
  st : Step G0 H0 O0 G H (Own σ ε)
  g1 : ∀ q o, G1 q = some o → G q = some o
  gA : G A = none
  hA : H A = some (.lst av)
  no : ¬ Own σ ε A
  rl : RpL M.F G acc av
  al : acc.length ≤ i
  eq : loopC vs blk (ds.drop i) ε acc = r

theorem tr_lc {M : Fr} {W : WX} {wi : TI} {src : Ev → Res (List D × Ev)} {tgt : D → Ev → Res Ev} {is : List Nat} {test : Ev → Res (Bool × Ev)} {elt : Ev → Res (D × Ev)} {vs : List Nat} (hw : Tr M W (fun G ds J => ItOk M.F J G ds) wi src) (hc : M.cp = none ∨ 0 ∉ vs) (his : ∀ i ∈ is, i ∈ vs) :
    TrN M W (tLc wi (gOf M tgt is) (tOf M W0 RB test) (tOf M W0 (Rp M.F) elt) vs) (eComp vs src tgt test elt) := by
  intro σ G H ε s Q hp
  refine hw σ G H ε s _ ?_
  unfold eComp at hp
  cases e0 : src ε with
  | stuck => rw [e0] at hp; exact hp
  | err c => rw [e0] at hp; exact hp
  | ok p =>
    rw [e0] at hp
    simp only [Res.bind_ok] at hp
    intro J G1 H1 s1 st1 ij A nA
    by_cases hz : p.1.length ≤ 1000000
    case neg => rw [if_neg hz] at hp; exact hp.elim
    rw [if_pos hz] at hp
    generalize hr : loopC vs (blkF vs tgt test elt) p.1 p.2 [] = r at hp
    obtain ⟨sA, stA, gA, noA⟩ := s1.newH (o := .lst []) nA
    refine ⟨fun i m H => ∃ G ε' acc av, LcInv M σ G1 H1 (Own σ p.2) G1 p.1 vs (blkF vs tgt test elt) r A i m H G ε' acc av, ⟨p.1.length, G1, p.2, [], [], by simp, Nat.zero_le _, sA, stA, fun _ _ h => h, gA, upd_same, noA, RpL.nil, Nat.le_refl _, by rw [List.drop_zero]; exact hr⟩, ?_⟩
    rintro i m H2 ⟨G2, ε2, acc, av, L⟩
    have it := ij i G2 H2 L.sr.hg L.g1
    by_cases hlt : i < p.1.length
    case neg =>
      have hi : i = p.1.length := by have := L.hi; omega
      refine .inl ⟨it.2 (by omega), ?_⟩
      have eq := L.eq
      rw [hi, List.drop_length] at eq
      have eq' : r = .ok (acc, ε2) := eq.symm
      rw [eq'] at hp
      have hp1 : PostN M W σ G1 H1 p.2 (.ok (acc, ε2)) Q := PostN.shift s1 st1 hp
      exact hp1 A av G2 H2 L.sr L.st L.gA L.hA L.rl nA L.no
    case pos =>
      obtain ⟨go, yld⟩ := it.1 p.1[i] (List.getElem?_eq_getElem hlt)
      have hd : p.1.drop i = p.1[i] :: p.1.drop (i + 1) := List.drop_eq_getElem_cons hlt
      have eq := L.eq
      rw [hd] at eq
      simp only [loopC] at eq
      by_cases hno : noOw ε2 vs = true
      case neg =>
        rw [if_neg hno] at eq
        rw [← eq] at hp
        exact hp.elim
      rw [if_pos hno] at eq
      refine .inr ⟨go, fun H' => ∃ G ε' acc av, LcInv M σ G1 H1 (Own σ p.2) G1 p.1 vs (blkF vs tgt test elt) r A (i + 1) (p.1.length - (i + 1)) H' G ε' acc av, fun H' h => ⟨p.1.length - (i + 1), by have := L.hm; omega, h⟩, fun x H3 y => ?_⟩
      obtain ⟨G3, gr, hg3, rx⟩ := yld x H3 y
      have s3 : SR M G3 H3 σ ε2 := L.sr.grow gr hg3.sub hg3.ntb hg3.tabs
      have st3 : Step G1 H1 (Own σ p.2) G3 H3 (Own σ ε2) := L.st.trans L.sr.sub (gr.step _)
      have gA3 : G3 A = none := by
        cases q : G3 A with
        | none => rfl
        | some u =>
          rcases gr.gn A u q with z | z
          · rw [L.gA] at z; cases z
          · rw [L.hA] at z; cases z
      have hA3 : H3 A = some (.lst av) := gr.hh _ _ L.hA (fun ps z => by cases z)
      obtain ⟨s4, o4⟩ := s3.wipe hc
      cases e1 : tgt p.1[i] (wipeE ε2 vs) with
      | stuck => simp only [blkF, e1, Res.bind_stuck, Res.ne_stuck] at eq; rw [← eq] at hp; exact hp.elim
      | err c => simp only [blkF, e1, Res.bind_err, Res.ne_err] at eq; rw [← eq] at hp; exact hp.elim
      | ok ε5 =>
        refine ⟨G3, wipeE ε2 vs, p.1[i], ε5, s4, rx, e1, fun σ5 s5 o5 k5 n5 => ?_⟩
        have hl5 : σ5.length = σ.length := n5.trans (wipe_length σ vs)
        have hw5 : L2.wipe σ5 vs = L2.wipe σ vs := by
          apply List.ext_getElem?
          intro j
          by_cases hj : j ∈ vs
          · have w : ∀ (τ : St), τ.length = σ.length → (L2.wipe τ vs)[j]? = (if j < σ.length then some none else none) := fun τ hτ => by
              by_cases hjl : j < σ.length
              · rw [if_pos hjl]
                cases q : (L2.wipe τ vs)[j]? with
                | none =>
                  have := List.getElem?_eq_none_iff.mp q
                  rw [wipe_length] at this
                  omega
                | some o =>
                  cases o with
                  | none => rfl
                  | some v => exact absurd hj (wipe_some q).2
              · rw [if_neg hjl, List.getElem?_eq_none_iff, wipe_length]; omega
            rw [w σ5 hl5, w σ rfl]
          · rw [wipe_out' hj]
            have := (k5 j fun z => hj (his j z)).1
            rw [this]
        refine ⟨hw5, G3, ε5, s5, ?_⟩
        have no5 : ¬ Own σ5 ε5 A := fun z => L.no (o4 _ (o5 _ z))
        have eqB : ∀ r', (test ε5).bind (fun b => if b.1 then (elt b.2).bind fun r => Res.ok (some r.1, backE ε2 r.2 vs) else .ok (none, backE ε2 b.2 vs)) = r' → r'.ne.bind (fun p_1 => loopC vs (blkF vs tgt test elt) (p.1.drop (i + 1)) p_1.2 (accD acc p_1.1)) = r := fun r' h => by
          rw [← h, ← eq]
          simp only [blkF, e1, Res.bind_ok]
        cases e2 : test ε5 with
        | stuck =>
          have := eqB .stuck (by rw [e2]; rfl)
          rw [← this] at hp; exact hp.elim
        | err c =>
          have := eqB (.err c) (by rw [e2]; rfl)
          rw [← this] at hp; exact hp.elim
        | ok b =>
          intro bv G6 H6 s6 st6 rb
          simp only [RB] at rb
          subst rb
          have gA6 : ∀ {G H : Hp} {O : Addr → Prop}, Step G3 H3 (Own σ5 ε5) G H O → G A = none := fun {G H O} st => by
            cases q : G A with
            | none => rfl
            | some u =>
              rcases st.gn A u q with z | z | z
              · rw [gA3] at z; cases z
              · rw [hA3] at z; cases z
              · exact (no5 z).elim
          have hA6 : ∀ {G H : Hp} {O : Addr → Prop}, Step G3 H3 (Own σ5 ε5) G H O → H A = some (.lst av) := fun st => st.hh _ _ hA3 (fun ps z => by cases z) no5
          -- behind the block's turn
          have fin : ∀ {G7 H7 : Hp} {ε7 : Ev}, SR M G7 H7 σ5 ε7 → Step G3 H3 (Own σ5 ε5) G7 H7 (Own σ5 ε7) → SR M G7 H7 σ (backE ε2 ε7 vs) ∧ Step G1 H1 (Own σ p.2) G7 H7 (Own σ (backE ε2 ε7 vs)) ∧ ¬ Own σ (backE ε2 ε7 vs) A := fun {G7 H7 ε7} s7 st7 => by
            obtain ⟨sb, ob⟩ := s3.back s7 st7.gg hno hw5 hl5
            have o75 : ∀ q, Own σ (backE ε2 ε7 vs) q → Own σ ε2 q ∨ H3 q = none := fun q z => (st7.oo q (ob q z)).elim (fun y => .inl (o4 q (o5 q y))) .inr
            have stt : Step G3 H3 (Own σ ε2) G7 H7 (Own σ (backE ε2 ε7 vs)) :=
              ⟨st7.gg, fun q o h nt nn => st7.hh q o h nt fun y => nn (o4 q (o5 q y)), st7.hs, fun q o h => (st7.gn q o h).elim .inl fun z => .inr (z.elim .inl fun y => .inr (o4 q (o5 q y))), o75⟩
            refine ⟨sb, st3.trans s3.sub stt, fun z => ?_⟩
            rcases o75 A z with y | y
            · exact L.no y
            · rw [hA3] at y; cases y
          cases hb : b.1 with
          | false =>
            rw [if_neg Bool.false_ne_true]
            have e3 := eqB (.ok (none, backE ε2 b.2 vs)) (by rw [e2]; simp [hb])
            obtain ⟨sb, stb, nb⟩ := fin s6 st6
            refine ⟨G6, backE ε2 b.2 vs, acc, av, rfl, by omega, sb, stb, fun q o h => st6.gg _ _ (gr.gg _ _ (L.g1 q o h)), gA6 st6, hA6 st6, nb, L.rl.mono fun q o h => st6.gg _ _ (gr.gg _ _ h), by have := L.al; omega, ?_⟩
            simpa [accD] using e3
          | true =>
            rw [if_pos rfl]
            refine ⟨G6, b.2, s6, ?_⟩
            cases e3 : elt b.2 with
            | stuck =>
              have := eqB .stuck (by rw [e2]; simp [hb, e3])
              rw [← this] at hp; exact hp.elim
            | err c =>
              have := eqB (.err c) (by rw [e2]; simp [hb, e3])
              rw [← this] at hp; exact hp.elim
            | ok y =>
              intro yv G7 H7 s7 st7' ry
              have st7 := st6.trans s6.sub st7'
              have e4 := eqB (.ok (some y.1, backE ε2 y.2 vs)) (by rw [e2]; simp [hb, e3])
              obtain ⟨sb, stb, nb⟩ := fin s7 st7
              refine ⟨av, hA6 st7, ?_, ?_⟩
              · have h1 := L.rl.length
                have h2 := L.al
                have h3 : (1000000 : Nat) < sizeLine := by rw [sizeLine_eq]; decide
                omega
              · have rl7 : RpL M.F G7 (acc ++ [y.1]) (av ++ [yv]) := (L.rl.mono fun q o h => st7.gg _ _ (gr.gg _ _ h)).append (RpL.cons ry RpL.nil)
                -- the new list's object is written
                have neA : ∀ q o, G7 q = some o → q ≠ A := fun q o h z => by rw [z, gA6 st7] at h; cases h
                have su : SR M G7 (upd H7 A (.lst (av ++ [yv]))) σ (backE ε2 y.2 vs) := by
                  refine ⟨fun q o h => by rw [upd_ne (neA q o h)]; exact sb.sub q o h, sb.ntb, ?_, sb.len, fun j x o e1 e2 => ?_, sb.inj, sb.cup⟩
                  · intro t ht
                    obtain ⟨ps, h1, h2, h3⟩ := sb.tabs t ht
                    refine ⟨ps, ?_, h2, fun pos cv hc => ?_⟩
                    · rw [upd_ne (fun z => by rw [z, hA6 st7] at h1; cases h1)]; exact h1
                    · obtain ⟨cc, e1, e2⟩ := h3 pos cv hc
                      refine ⟨cc, e1, ?_⟩
                      rw [upd_ne (fun z => by rw [z, hA6 st7] at e2; unfold LamX.CodeO at e2; cases e2)]; exact e2
                  · have h := sb.slots j x o e1 e2
                    cases x with
                    | em => trivial
                    | pu d => exact h
                    | ow es =>
                      obtain ⟨q, ws, e, n, hq, r⟩ := h
                      refine ⟨q, ws, e, n, ?_, r⟩
                      rw [upd_ne (fun z => nb ⟨j, es, e1, by rw [← z, ← e]; exact e2⟩)]
                      exact hq
                refine ⟨G7, backE ε2 y.2 vs, acc ++ [y.1], av ++ [yv], rfl, by omega, su, ⟨stb.gg, fun q o h nt nn => ?_, fun q h => ?_, stb.gn, stb.oo⟩, fun q o h => st7.gg _ _ (gr.gg _ _ (L.g1 q o h)), gA6 st7, upd_same, nb, rl7, by have := L.al; simp; omega, ?_⟩
                · rw [upd_ne (ne_of_none h nA)]; exact stb.hh q o h nt nn
                · unfold upd at h
                  split at h
                  · cases h
                  · exact stb.hs q h
                · simpa [accD] using e4

section
variable {M : Fr} {W : WX} {X : Cx} {k : Nat} {pos : Pos}
theorem pn_lc (c : CO M W k X) {elt tg iter : Expr} {ifs : List Expr} {scope : Scope} {own : List (Str × Nat)} {src : Ev → Res (List D × Ev)} {tgt : D → Ev → Res Ev} {is : List Nat} {ft : Ev → Res (Bool × Ev)} {fe : Ev → Res (D × Ev)} (hi : PIt M W X tg iter src) (ok : blkC X.N X.env.scope scope own = true)
    (hg : ∀ (s : Shared) (H : Hp) (C : Addr) (cl : List (Str × Addr)) (fp : List Addr), CO M W0 k (X.blk s H scope (compEnvC scope cl C X.env) fp) → PTg M (X.blk s H scope (compEnvC scope cl C X.env) fp) tg tgt is)
    (ht : ∀ (s : Shared) (H : Hp) (C : Addr) (cl : List (Str × Addr)) (fp : List Addr), CO M W0 k (X.blk s H scope (compEnvC scope cl C X.env) fp) → PTs' M W0 (X.blk s H scope (compEnvC scope cl C X.env) fp) ifs ft)
    (he : ∀ (s : Shared) (H : Hp) (C : Addr) (cl : List (Str × Addr)) (fp : List Addr), CO M W0 k (X.blk s H scope (compEnvC scope cl C X.env) fp) → PV M W0 (X.blk s H scope (compEnvC scope cl C X.env) fp) elt fe)
    (hc : M.cp = none ∨ 0 ∉ own.map (·.2)) (his : ∀ i ∈ is, i ∈ own.map (·.2)) (hs : ∀ x, foldedSetIterable iter X.env x = pure x := by intro _; rfl) :
    PN M W X (.ListComp elt [⟨tg, iter, ifs, 0⟩] scope pos) (eComp (own.map (·.2)) src tgt ft fe) := by
  obtain ⟨wi, ei, qi⟩ := hi
  exact ⟨_, pe_lc c.calm c.nd ei (blkOk_by ok) (fun s H C cl fp => (hg s H C cl fp (c.blk ..)).pg) (fun s H C cl fp => ht s H C cl fp (c.blk ..)) (fun s H C cl fp => (he s H C cl fp (c.blk ..)).pe) hs, tr_lc qi hc his⟩
end
end PL
/-! PL, part h: statements. -/
namespace PL
open PySem PySem.Spec PyProof.Rows L2

inductive Out where
  | nx (ε : Ev) | rt (d : D) (ε : Ev) | bk (ε : Ev) | ct (ε : Ev) | err (c : Nat) | stuck

def PostS (M : Fr) (W : WX) (σ : St) (G H : Hp) (ε : Ev) (r : Out) (E : Ends) : Prop :=
  match r with
  | .nx ε' => ∀ σ' G' H', SR M G' H' σ' ε' → Step G H (Own σ ε) G' H' (Own σ' ε') → E.nx σ' H'
  | .bk ε' => ∀ σ' G' H', SR M G' H' σ' ε' → Step G H (Own σ ε) G' H' (Own σ' ε') → E.bk σ' H'
  | .ct ε' => ∀ σ' G' H', SR M G' H' σ' ε' → Step G H (Own σ ε) G' H' (Own σ' ε') → E.ct σ' H'
  | .rt d ε' => ∀ v σ' G' H', SR M G' H' σ' ε' → Step G H (Own σ ε) G' H' (Own σ' ε') → Rp M.F G' d v → E.rt v H'
  | .err c => ErrOk M W G H (Own σ ε) c
  | .stuck => False
theorem PostS.shift {M : Fr} {W : WX} {σ σ1 : St} {G H G1 H1 : Hp} {ε ε1 : Ev} {r : Out} {E : Ends} (s1 : SR M G1 H1 σ1 ε1) (st : Step G H (Own σ ε) G1 H1 (Own σ1 ε1)) (h : PostS M W σ G H ε r E) : PostS M W σ1 G1 H1 ε1 r E := by
  cases r with
  | nx ε' => exact fun σ' G' H' s t => h σ' G' H' s (st.trans s1.sub t)
  | bk ε' => exact fun σ' G' H' s t => h σ' G' H' s (st.trans s1.sub t)
  | ct ε' => exact fun σ' G' H' s t => h σ' G' H' s (st.trans s1.sub t)
  | rt d ε' => exact fun v σ' G' H' s t => h v σ' G' H' s (st.trans s1.sub t)
  | err c => exact ErrOk.shift s1.sub st h
  | stuck => exact h
def TrS (M : Fr) (W : WX) (t : TS) (f : Ev → Out) : Prop := ∀ (σ : St) (G H : Hp) (ε : Ev), SR M G H σ ε → ∀ E : Ends, PostS M W σ G H ε (f ε) E → t E σ H
def PS' (M : Fr) (W : WX) (X : Cx) (st : Stmt) (f : Ev → Out) : Prop := ∃ t, PS X st t ∧ TrS M W t f
def PSs' (M : Fr) (W : WX) (X : Cx) (st : List Stmt) (f : Ev → Out) : Prop := ∃ t, PSs X st t ∧ TrS M W t f

@[reducible, simp] def Out.andThen (r : Out) (g : Ev → Out) : Out := match r with
  | .nx ε => g ε
  | r => r
@[reducible, simp] def sSeq (f g : Ev → Out) : Ev → Out := fun ε => (f ε).andThen g
@[reducible, simp] def Res.out {α : Type} (r : Res α) (g : α → Out) : Out := match r with
  | .ok a => g a
  | .err c => .err c
  | .stuck => .stuck
@[reducible, simp] def sDrop (f : Ev → Res (D × Ev)) : Ev → Out := fun ε => (f ε).out fun p => .nx p.2
@[reducible, simp] def sRet (f : Ev → Res (D × Ev)) : Ev → Out := fun ε => (f ε).out fun p => .rt p.1 p.2
@[reducible, simp] def sIf (c : Ev → Res (Bool × Ev)) (f g : Ev → Out) : Ev → Out := fun ε => (c ε).out fun p => if p.1 then f p.2 else g p.2
@[reducible, simp] def sTg (tgt : D → Ev → Res Ev) (f : Ev → Res (D × Ev)) : Ev → Out := fun ε => (f ε).out fun p => (tgt p.1 p.2).ne.out fun ε' => .nx ε'
@[reducible, simp] def sOwn (i : Nat) (f : Ev → Res (List D × Ev)) : Ev → Out := fun ε => (f ε).out fun p => if i < p.2.length then .nx (p.2.set i (.ow p.1)) else .stuck

section
variable {M : Fr} {W : WX} {X : Cx} {k : Nat} {e : Expr} {st : Stmt} {rest : List Stmt} {f g : Ev → Out} {fe : Ev → Res (D × Ev)} {pos : Pos}
theorem pss_nil' : PSs' M W X [] (fun ε => .nx ε) := ⟨_, pss_nil, fun σ G H ε s E hp => hp σ G H s (Step.refl ..)⟩
theorem pss_cons' (h1 : PS' M W X st f) (h2 : PSs' M W X rest g) : PSs' M W X (st :: rest) (sSeq f g) := by
  obtain ⟨t, et, qt⟩ := h1
  obtain ⟨u, eu, qu⟩ := h2
  refine ⟨_, pss_cons et eu, fun σ G H ε s E hp => ?_⟩
  refine qt σ G H ε s _ ?_
  cases e : f ε with
  | nx ε' =>
    simp only [sSeq, e, Out.andThen] at hp
    intro σ' G' H' s' st'
    exact qu σ' G' H' ε' s' E (hp.shift s' st')
  | bk ε' => simp only [sSeq, e, Out.andThen] at hp; exact hp
  | ct ε' => simp only [sSeq, e, Out.andThen] at hp; exact hp
  | rt d ε' => simp only [sSeq, e, Out.andThen] at hp; exact hp
  | err c => simp only [sSeq, e, Out.andThen] at hp; exact hp
  | stuck => simp only [sSeq, e, Out.andThen] at hp; exact hp
theorem pss_one' (h1 : PS' M W X st f) : PSs' M W X [st] f := by
  obtain ⟨t, et, qt⟩ := h1
  exact ⟨_, pss_one et, qt⟩
theorem ps_pass' : PS' M W X (.Pass pos) (fun ε => .nx ε) := ⟨_, ps_pass, fun σ G H ε s E hp => hp σ G H s (Step.refl ..)⟩
theorem ps_break' : PS' M W X (.Break pos) (fun ε => .bk ε) := ⟨_, ps_break, fun σ G H ε s E hp => hp σ G H s (Step.refl ..)⟩
theorem ps_continue' : PS' M W X (.Continue pos) (fun ε => .ct ε) := ⟨_, ps_continue, fun σ G H ε s E hp => hp σ G H s (Step.refl ..)⟩
/-- a value, then what is done with it -/
theorem trS_val {α β : Type} {R : Hp → β → α → Prop} {t : St → Hp → (α → Hp → Prop) → Prop} {fv : Ev → Res (β × Ev)} (ht : Tr M W R t fv) {u : α → TS} {go : β → Ev → Out}
    (h : ∀ b a σ G H ε, SR M G H σ ε → R G b a → ∀ E, PostS M W σ G H ε (go b ε) E → u a E σ H) : TrS M W (fun E σ H => t σ H fun a H1 => u a E σ H1) (fun ε => (fv ε).out fun p => go p.1 p.2) := by
  intro σ G H ε s E hp
  refine ht σ G H ε s _ ?_
  cases e : fv ε with
  | stuck => simp only [e, Res.out] at hp; exact hp
  | err c => simp only [e, Res.out] at hp; exact hp
  | ok p =>
    simp only [e, Res.out] at hp
    intro a G' H' s' st' r
    exact h p.1 a σ G' H' p.2 s' r E (hp.shift s' st')
theorem ps_expr' (he : PV M W X e fe) (hs : swapsWith e none pos.line X.env = pure false := by rfl) : PS' M W X (.Expr e pos) (sDrop fe) := by
  obtain ⟨t, et, qt⟩ := he
  refine ⟨_, ps_expr et hs, trS_val (go := fun _ ε => .nx ε) (u := fun _ E σ H => E.nx σ H) qt ?_⟩
  intro d v σ G H ε s r E hp
  exact hp σ G H s (Step.refl ..)
theorem ps_ret' (he : PV M W X e fe) : PS' M W X (.Return (some e) pos) (sRet fe) := by
  obtain ⟨t, et, qt⟩ := he
  refine ⟨_, ps_ret et, trS_val (go := fun d ε => .rt d ε) (u := fun v E _ H => E.rt v H) qt ?_⟩
  intro d v σ G H ε s r E hp
  exact hp v σ G H s (Step.refl ..) r
theorem ps_retN' : PS' M W X (.Return none pos) (fun ε => .rt .non ε) := ⟨_, ps_retN, fun σ G H ε s E hp => hp .non σ G H s (Step.refl ..) (rp_non.mpr rfl)⟩
theorem ps_if' {c : Expr} {a b : List Stmt} {fc : Ev → Res (Bool × Ev)} (hc : PB M W X c fc) (ha : PSs' M W X a f) (hb : PSs' M W X b g) : PS' M W X (.If c a b pos) (sIf fc f g) := by
  obtain ⟨t, et, qt⟩ := hc
  obtain ⟨u, eu, qu⟩ := ha
  obtain ⟨w, ew, qw⟩ := hb
  refine ⟨_, ps_if et eu ew, trS_val (go := fun b ε => if b then f ε else g ε) (u := fun b E σ H => if b = true then u E σ H else w E σ H) qt ?_⟩
  intro b b' σ G H ε s r E hp
  simp only [RB] at r
  subst r
  cases b with
  | true => exact qu σ G H ε s E hp
  | false => exact qw σ G H ε s E hp

/-! ### stores -/
theorem ps_tg' {tg : Expr} {tgt : D → Ev → Res Ev} {is : List Nat} (he : PV M W X e fe) (hg : PTg M X tg tgt is) (hs : swapsWithSole [tg] e pos.line X.env = pure false := by rfl) (hw : swappedStores [tg] e X.env = pure none := by rfl)
    (h1 : (assignEach [tg] X.env).map (·.2) = [assign tg X.env] := by rfl) : PS' M W X (.Assign [tg] e pos) (sTg tgt fe) := by
  obtain ⟨t, et, qt⟩ := he
  obtain ⟨g, eg, qg⟩ := hg
  refine ⟨_, ps_asg et eg hs hw h1, trS_val (go := fun d ε => (tgt d ε).ne.out fun ε' => .nx ε') (u := fun v E σ H => g v σ H E.nx) qt ?_⟩
  intro d v σ G H ε s r E hp
  cases e1 : tgt d ε with
  | stuck => simp only [e1, Res.ne, Res.out] at hp; exact hp.elim
  | err c => simp only [e1, Res.ne, Res.out] at hp; exact hp.elim
  | ok ε' =>
    simp only [e1, Res.ne, Res.out] at hp
    exact qg d v σ G H ε ε' s r e1 _ fun σ' s' o' _ _ => hp σ' G H s' ⟨fun _ _ h => h, fun _ _ h _ _ => h, fun _ h => h, fun _ _ h => .inl h, fun q z => .inl (o' q z)⟩
theorem trS_setName {i : Nat} {te : TE} (qt : Tr M W (Rp M.F) te fe) (hc : M.cp = none ∨ i ≠ 0) : TrS M W (tAsg te (gName i)) (sTg (tName i) fe) := by
  refine trS_val (go := fun d ε => (tName i d ε).ne.out fun ε' => .nx ε') (u := fun v E σ H => gName i v σ H E.nx) qt ?_
  intro d v σ G H ε s r E hp
  simp only [tName] at hp
  split at hp
  · rename_i hl
    obtain ⟨s2, o⟩ := s.setPu hl r hc
    exact hp _ G H s2 ⟨fun _ _ h => h, fun _ _ h _ _ => h, fun _ h => h, fun _ _ h => .inl h, fun q z => .inl (o q z)⟩
  · exact hp.elim
theorem ps_set' (c : CO M W k X) {i : Nat} {x : Str} {pos' : Pos} (he : PV M W X e fe) (hc : M.cp = none ∨ i ≠ 0) (hi : X.N[i]? = some x := by rfl) (hx : Loc X.env.scope x := by first | exact Or.inl rfl | exact Or.inr rfl)
    (hs : swapsWith e (some (.Name x pos')) pos.line X.env = pure false := by rfl) (hf : X.fn x = true ∨ X.env.scope.names.lookup x = some .local := by first | exact .inl rfl | exact .inr rfl | assumption) :
    PS' M W X (.Assign [.Name x pos'] e pos) (sTg (tName i) fe) := by
  obtain ⟨t, et, qt⟩ := he
  exact ⟨_, ps_set c.nd hi hx et hs hf, trS_setName qt hc⟩

/-- a slot's new content: a known value, or a list of its own -/
def NewOk (F : Fx) (G H : Hp) (O : Addr → Prop) : Slot → V → Prop
  | .em, _ => False
  | .pu d, v => Rp F G d v
  | .ow ds, v => ∃ p vs, v = .ref p ∧ G p = none ∧ H p = some (.lst vs) ∧ RpL F G ds vs ∧ ¬ O p
theorem SR.setNew {G H : Hp} {σ : St} {ε : Ev} (s : SR M G H σ ε) {i : Nat} {x : Slot} {v : V} (hi : i < ε.length) (r : NewOk M.F G H (Own σ ε) x v) (hc : M.cp = none ∨ i ≠ 0) :
    SR M G H (σ.set i (some v)) (ε.set i x) ∧ ∀ q, Own (σ.set i (some v)) (ε.set i x) q → Own σ ε q ∨ ((∃ ds, x = .ow ds) ∧ v = .ref q) := by
  cases x with
  | em => exact r.elim
  | pu d =>
    obtain ⟨a, b⟩ := s.setPu hi r hc
    exact ⟨a, fun q z => .inl (b q z)⟩
  | ow es =>
    obtain ⟨p, vs, rfl, gp, hp, rl, no⟩ := r
    have hσ : i < σ.length := by rw [← s.len]; exact hi
    have old : ∀ (j : Nat), j ≠ i → (σ.set i (some (V.ref p)))[j]? = σ[j]? ∧ (ε.set i (.ow es))[j]? = ε[j]? := fun j hj => ⟨List.getElem?_set_ne (Ne.symm hj), List.getElem?_set_ne (Ne.symm hj)⟩
    refine ⟨⟨s.sub, s.ntb, s.tabs, by rw [List.length_set, List.length_set]; exact s.len, fun j x o e1 e2 => ?_, fun j l ds ds' q e1 e2 e3 e4 => ?_, fun p' hp' => ?_⟩, fun q ⟨j, ds, e1, e2⟩ => ?_⟩
    · by_cases hj : j = i
      · subst hj
        rw [List.getElem?_set_self hi] at e1
        rw [List.getElem?_set_self hσ] at e2
        cases e1
        cases e2
        exact ⟨p, vs, rfl, gp, hp, rl⟩
      · rw [(old j hj).2] at e1
        rw [(old j hj).1] at e2
        exact s.slots j x o e1 e2
    · by_cases hj : j = i
      · by_cases hl : l = i
        · rw [hj, hl]
        · subst hj
          rw [List.getElem?_set_self hσ] at e3
          cases e3
          rw [(old l hl).2] at e2
          rw [(old l hl).1] at e4
          exact (no ⟨l, ds', e2, e4⟩).elim
      · by_cases hl : l = i
        · subst hl
          rw [List.getElem?_set_self hσ] at e4
          cases e4
          rw [(old j hj).2] at e1
          rw [(old j hj).1] at e3
          exact (no ⟨j, ds, e1, e3⟩).elim
        · rw [(old j hj).2] at e1
          rw [(old j hj).1] at e3
          rw [(old l hl).2] at e2
          rw [(old l hl).1] at e4
          exact s.inj j l ds ds' q e1 e2 e3 e4
    · obtain ⟨a, ds, b⟩ := s.cup p' hp'
      have h0 : (0 : Nat) ≠ i := fun e => by
        rcases hc with z | z
        · rw [z] at hp'; cases hp'
        · exact z e.symm
      rw [(old 0 h0).1, (old 0 h0).2]
      exact ⟨a, ds, b⟩
    · by_cases hj : j = i
      · subst hj
        rw [List.getElem?_set_self hσ] at e2
        cases e2
        exact .inr ⟨⟨es, rfl⟩, rfl⟩
      · rw [(old j hj).2] at e1
        rw [(old j hj).1] at e2
        exact .inl ⟨j, ds, e1, e2⟩
theorem trS_setOwn {i : Nat} {te : TE} {fn : Ev → Res (List D × Ev)} (qt : TrN M W te fn) (hc : M.cp = none ∨ i ≠ 0) : TrS M W (tAsg te (gName i)) (sOwn i fn) := by
  intro σ G H ε s E hp
  refine qt σ G H ε s _ ?_
  simp only [sOwn] at hp
  cases e : fn ε with
  | stuck => simp only [e, Res.out] at hp; exact hp
  | err c => simp only [e, Res.out] at hp; exact hp
  | ok p =>
    simp only [e, Res.out] at hp
    split at hp
    · rename_i hl
      intro a vs G' H' s' st' gp hp' rl nh no
      obtain ⟨s2, o⟩ := s'.setNew (x := .ow p.1) (v := .ref a) hl ⟨a, vs, rfl, gp, hp', rl, no⟩ hc
      refine hp _ G' H' s2 ⟨st'.gg, st'.hh, st'.hs, st'.gn, fun q z => ?_⟩
      rcases o q z with y | ⟨_, y⟩
      · exact st'.oo q y
      · cases y; exact .inr nh
    · exact hp.elim
theorem ps_own' (c : CO M W k X) {i : Nat} {x : Str} {pos' : Pos} {fn : Ev → Res (List D × Ev)} (he : PN M W X e fn) (hc : M.cp = none ∨ i ≠ 0) (hi : X.N[i]? = some x := by rfl) (hx : Loc X.env.scope x := by first | exact Or.inl rfl | exact Or.inr rfl)
    (hs : swapsWith e (some (.Name x pos')) pos.line X.env = pure false := by rfl) (hf : X.fn x = true ∨ X.env.scope.names.lookup x = some .local := by first | exact .inl rfl | exact .inr rfl | assumption) :
    PS' M W X (.Assign [.Name x pos'] e pos) (sOwn i fn) := by
  obtain ⟨t, et, qt⟩ := he
  exact ⟨_, ps_set c.nd hi hx et hs hf, trS_setOwn qt hc⟩
/-! name = [.. for ..] on one line -/
section
variable {elt tg iter : Expr} {ifs : List Expr} {scope : Scope} {own : List (Str × Nat)} {spos py : Pos} {src : Ev → Res (List D × Ev)} {tgt : D → Ev → Res Ev} {is : List Nat} {ft : Ev → Res (Bool × Ev)} {fc : Ev → Res (D × Ev)}
theorem ps_lcAny (c : CO M W k X) {i : Nat} {y : Str} (hi : PIt M W X tg iter src) (ok : blkC X.N X.env.scope scope own = true)
    (hg : ∀ (s : Shared) (H : Hp) (C : Addr) (cl : List (Str × Addr)) (fp : List Addr), CO M W0 k (X.blk s H scope (compEnvC scope cl C X.env) fp) → PTg M (X.blk s H scope (compEnvC scope cl C X.env) fp) tg tgt is)
    (ht : ∀ (s : Shared) (H : Hp) (C : Addr) (cl : List (Str × Addr)) (fp : List Addr), CO M W0 k (X.blk s H scope (compEnvC scope cl C X.env) fp) → PTs' M W0 (X.blk s H scope (compEnvC scope cl C X.env) fp) ifs ft)
    (he : ∀ (s : Shared) (H : Hp) (C : Addr) (cl : List (Str × Addr)) (fp : List Addr), CO M W0 k (X.blk s H scope (compEnvC scope cl C X.env) fp) → PV M W0 (X.blk s H scope (compEnvC scope cl C X.env) fp) elt fc)
    (hcc : M.cp = none ∨ 0 ∉ own.map (·.2)) (his : ∀ i ∈ is, i ∈ own.map (·.2)) (hy : X.N[i]? = some y) (hyl : X.env.scope.names.lookup y = some .local)
    (hsw : swapsWith (.ListComp elt [⟨tg, iter, ifs, 0⟩] scope pos) (some (.Name y py)) spos.line X.env = pure true) (hs : ∀ x, foldedSetIterable iter X.env x = pure x := by intro _; rfl) :
    ∃ t, PS X (.Assign [.Name y py] (.ListComp elt [⟨tg, iter, ifs, 0⟩] scope pos) spos) (tAsg t (gName i)) ∧ TrN M W t (eComp (own.map (·.2)) src tgt ft fc) := by
  obtain ⟨wi, ei, qi⟩ := hi
  exact ⟨_, ps_setLc c.calm c.nd hy hyl hsw ei (blkOk_by ok) (fun s H C cl fp => (hg s H C cl fp (c.blk ..)).pg) (fun s H C cl fp => ht s H C cl fp (c.blk ..)) (fun s H C cl fp => (he s H C cl fp (c.blk ..)).pe) hs, tr_lc qi hcc his⟩
theorem ps_setLc' (c : CO M W k X) {i : Nat} {y : Str} (hi : PIt M W X tg iter src) (ok : blkC X.N X.env.scope scope own = true)
    (hg : ∀ (s : Shared) (H : Hp) (C : Addr) (cl : List (Str × Addr)) (fp : List Addr), CO M W0 k (X.blk s H scope (compEnvC scope cl C X.env) fp) → PTg M (X.blk s H scope (compEnvC scope cl C X.env) fp) tg tgt is)
    (ht : ∀ (s : Shared) (H : Hp) (C : Addr) (cl : List (Str × Addr)) (fp : List Addr), CO M W0 k (X.blk s H scope (compEnvC scope cl C X.env) fp) → PTs' M W0 (X.blk s H scope (compEnvC scope cl C X.env) fp) ifs ft)
    (he : ∀ (s : Shared) (H : Hp) (C : Addr) (cl : List (Str × Addr)) (fp : List Addr), CO M W0 k (X.blk s H scope (compEnvC scope cl C X.env) fp) → PV M W0 (X.blk s H scope (compEnvC scope cl C X.env) fp) elt fc)
    (hcc : M.cp = none ∨ 0 ∉ own.map (·.2)) (his : ∀ i ∈ is, i ∈ own.map (·.2)) (hc : M.cp = none ∨ i ≠ 0) (hy : X.N[i]? = some y := by rfl) (hyl : X.env.scope.names.lookup y = some .local := by rfl)
    (hsw : swapsWith (.ListComp elt [⟨tg, iter, ifs, 0⟩] scope pos) (some (.Name y py)) spos.line X.env = pure true := by exact sw_true rfl rfl rfl (by decide +kernel)) (hs : ∀ x, foldedSetIterable iter X.env x = pure x := by intro _; rfl) :
    PS' M W X (.Assign [.Name y py] (.ListComp elt [⟨tg, iter, ifs, 0⟩] scope pos) spos) (sTg (tName i) (eL (eComp (own.map (·.2)) src tgt ft fc))) := by
  obtain ⟨t, et, qt⟩ := ps_lcAny (i := i) (py := py) (spos := spos) c hi ok hg ht he hcc his hy hyl hsw hs
  exact ⟨_, et, trS_setName qt.tr hc⟩
theorem ps_ownLc' (c : CO M W k X) {i : Nat} {y : Str} (hi : PIt M W X tg iter src) (ok : blkC X.N X.env.scope scope own = true)
    (hg : ∀ (s : Shared) (H : Hp) (C : Addr) (cl : List (Str × Addr)) (fp : List Addr), CO M W0 k (X.blk s H scope (compEnvC scope cl C X.env) fp) → PTg M (X.blk s H scope (compEnvC scope cl C X.env) fp) tg tgt is)
    (ht : ∀ (s : Shared) (H : Hp) (C : Addr) (cl : List (Str × Addr)) (fp : List Addr), CO M W0 k (X.blk s H scope (compEnvC scope cl C X.env) fp) → PTs' M W0 (X.blk s H scope (compEnvC scope cl C X.env) fp) ifs ft)
    (he : ∀ (s : Shared) (H : Hp) (C : Addr) (cl : List (Str × Addr)) (fp : List Addr), CO M W0 k (X.blk s H scope (compEnvC scope cl C X.env) fp) → PV M W0 (X.blk s H scope (compEnvC scope cl C X.env) fp) elt fc)
    (hcc : M.cp = none ∨ 0 ∉ own.map (·.2)) (his : ∀ i ∈ is, i ∈ own.map (·.2)) (hc : M.cp = none ∨ i ≠ 0) (hy : X.N[i]? = some y := by rfl) (hyl : X.env.scope.names.lookup y = some .local := by rfl)
    (hsw : swapsWith (.ListComp elt [⟨tg, iter, ifs, 0⟩] scope pos) (some (.Name y py)) spos.line X.env = pure true := by exact sw_true rfl rfl rfl (by decide +kernel)) (hs : ∀ x, foldedSetIterable iter X.env x = pure x := by intro _; rfl) :
    PS' M W X (.Assign [.Name y py] (.ListComp elt [⟨tg, iter, ifs, 0⟩] scope pos) spos) (sOwn i (eComp (own.map (·.2)) src tgt ft fc)) := by
  obtain ⟨t, et, qt⟩ := ps_lcAny (i := i) (py := py) (spos := spos) c hi ok hg ht he hcc his hy hyl hsw hs
  exact ⟨_, et, trS_setOwn qt hc⟩
end
end

/-! ### a, b = e1, e2 -/
def PSl (M : Fr) (W : WX) (X : Cx) (e : Expr) (f : Ev → Res (Slot × Ev)) : Prop := ∃ t, PE X e t ∧ ∀ (σ : St) (G H : Hp) (ε : Ev), SR M G H σ ε → ∀ Q : VK,
  (match f ε with
    | .ok p => ∀ v G' H', SR M G' H' σ p.2 → Step G H (Own σ ε) G' H' (Own σ p.2) → NewOk M.F G' H' (Own σ p.2) p.1 v → (∀ ds q, p.1 = .ow ds → v = .ref q → H q = none) → Q v H'
    | .err c => ErrOk M W G H (Own σ ε) c
    | .stuck => False) → t σ H Q
@[reducible, simp] def slP (f : Ev → Res (D × Ev)) : Ev → Res (Slot × Ev) := fun ε => (f ε).bind fun p => .ok (.pu p.1, p.2)
@[reducible, simp] def slN (f : Ev → Res (List D × Ev)) : Ev → Res (Slot × Ev) := fun ε => (f ε).bind fun p => .ok (.ow p.1, p.2)
section
variable {M : Fr} {W : WX} {X : Cx} {k : Nat} {e a b c₀ : Expr} {st : Stmt} {rest : List Stmt} {f g : Ev → Out} {fe : Ev → Res (D × Ev)} {pos : Pos}
theorem psl_p (h : PV M W X e fe) : PSl M W X e (slP fe) := by
  obtain ⟨t, et, q⟩ := h
  refine ⟨t, et, fun σ G H ε s Q hp => q σ G H ε s Q ?_⟩
  simp only [slP] at hp
  cases e1 : fe ε with
  | stuck => rw [e1] at hp; exact hp
  | err c => rw [e1] at hp; exact hp
  | ok p =>
    rw [e1] at hp
    exact fun v G' H' s' st' r => hp v G' H' s' st' r (fun ds q z => by cases z)
theorem psl_n {fn : Ev → Res (List D × Ev)} (h : PN M W X e fn) : PSl M W X e (slN fn) := by
  obtain ⟨t, et, q⟩ := h
  refine ⟨t, et, fun σ G H ε s Q hp => q σ G H ε s Q ?_⟩
  simp only [slN] at hp
  cases e1 : fn ε with
  | stuck => rw [e1] at hp; exact hp
  | err c => rw [e1] at hp; exact hp
  | ok p =>
    rw [e1] at hp
    exact fun a vs G' H' s' st' gp hp' rl nh no => hp (.ref a) G' H' s' st' ⟨a, vs, rfl, gp, hp', rl, no⟩ (fun ds q _ z => by cases z; exact nh)
/-- what is new stays new behind a further step -/
theorem NewOk.step {G H G' H' : Hp} {σ : St} {ε ε' : Ev} {x : Slot} {v : V} (r : NewOk M.F G H (Own σ ε) x v) (s' : SR M G' H' σ ε') (st : Step G H (Own σ ε) G' H' (Own σ ε')) : NewOk M.F G' H' (Own σ ε') x v := by
  cases x with
  | em => exact r
  | pu d => exact r.mono st.gg
  | ow ds =>
    obtain ⟨p, vs, rfl, gp, hp, rl, no⟩ := r
    refine ⟨p, vs, rfl, ?_, st.hh _ _ hp (fun ps z => by cases z) no, rl.mono st.gg, fun z => ?_⟩
    · cases q : G' p with
      | none => rfl
      | some u =>
        rcases st.gn p u q with z | z | z
        · rw [gp] at z; cases z
        · rw [hp] at z; cases z
        · exact (no z).elim
    · rcases st.oo p z with y | y
      · exact no y
      · rw [hp] at y; cases y
@[reducible, simp] def sPar2 (i j : Nat) (fa fb : Ev → Res (Slot × Ev)) : Ev → Out := fun ε => (fa ε).out fun p => (fb p.2).out fun q =>
  if i < q.2.length ∧ j < q.2.length then .nx ((q.2.set i p.1).set j q.1) else .stuck
theorem ps_par2' (c : CO M W k X) {i j : Nat} {x y : Str} {px py pt : Pos} {kt k2 pt2} {fa fb : Ev → Res (Slot × Ev)} (ha : PSl M W X a fa) (hb : PSl M W X b fb) (hci : M.cp = none ∨ i ≠ 0) (hcj : M.cp = none ∨ j ≠ 0) (hij : i ≠ j)
    (hi : X.N[i]? = some x := by rfl) (hj : X.N[j]? = some y := by rfl) (hx : X.env.scope.names.lookup x = some .local := by rfl) (hy : X.env.scope.names.lookup y = some .local := by rfl)
    (h1 : starEach [a, b] X.env = (false, eval a X.env) :: starEach [b] X.env := by rfl) (h2 : starEach [b] X.env = (false, eval b X.env) :: starEach [] X.env := by rfl)
    (hw : swappedStores [.Tuple [.Name x px, .Name y py] kt pt] (.Tuple [a, b] k2 pt2) X.env = pure (some [x, y]) := by rfl)
    (hs : swapsWithSole [.Tuple [.Name x px, .Name y py] kt pt] (.Tuple [a, b] k2 pt2) pos.line X.env = pure false := by rfl) :
    PS' M W X (.Assign [.Tuple [.Name x px, .Name y py] kt pt] (.Tuple [a, b] k2 pt2) pos) (sPar2 i j fa fb) := by
  obtain ⟨ta, ea, qa⟩ := ha
  obtain ⟨tb, eb, qb⟩ := hb
  refine ⟨_, ps_par c.calm c.nd hi hj hij hx hy (L2.pa_cons ea (L2.pa_cons eb L2.pa_nil h2) h1) hw hs, fun σ G H ε s E hp => ?_⟩
  refine qa σ G H ε s _ ?_
  simp only [sPar2] at hp
  cases e1 : fa ε with
  | stuck => simp only [e1, Res.out] at hp; exact hp
  | err c => simp only [e1, Res.out] at hp; exact hp
  | ok p =>
    simp only [e1, Res.out] at hp
    intro v G1 H1 s1 st1 r1 n1
    refine qb σ G1 H1 p.2 s1 _ ?_
    cases e2 : fb p.2 with
    | stuck => simp only [e2, Res.out] at hp; exact hp
    | err c => simp only [e2, Res.out] at hp; exact ErrOk.shift s1.sub st1 hp
    | ok q =>
      simp only [e2, Res.out] at hp
      split at hp
      · rename_i hl
        intro w G2 H2 s2 st2 r2 n2
        have st := st1.trans s1.sub st2
        have r1' := r1.step s2 st2
        obtain ⟨s3, o3⟩ := s2.setNew hl.1 r1' hci
        have r2' : NewOk M.F G2 H2 (Own (σ.set i (some v)) (q.2.set i p.1)) q.1 w := by
          cases hq : q.1 with
          | em => rw [hq] at r2; exact r2
          | pu d => rw [hq] at r2; exact r2
          | ow ds =>
            rw [hq] at r2
            obtain ⟨a2, vs2, rfl, g2, h2', l2, no2⟩ := r2
            refine ⟨a2, vs2, rfl, g2, h2', l2, fun z => ?_⟩
            rcases o3 a2 z with y | ⟨⟨ds1, y⟩, y2⟩
            · exact no2 y
            · have hn2 := n2 ds a2 hq rfl
              rw [y] at r1
              obtain ⟨a1, vs1, e, _, h1', _⟩ := r1
              rw [y2] at e
              cases e
              rw [h1'] at hn2; cases hn2
        obtain ⟨s4, o4⟩ := s3.setNew (i := j) (by rw [List.length_set]; exact hl.2) r2' hcj
        refine ⟨v, w, rfl, hp _ G2 H2 s4 ⟨st.gg, st.hh, st.hs, st.gn, fun z hz => ?_⟩⟩
        rcases o4 z hz with y | ⟨⟨ds, y⟩, y2⟩
        · rcases o3 z y with y | ⟨⟨ds, y⟩, y2⟩
          · exact st.oo z y
          · exact .inr (n1 ds z y y2)
        · exact .inr (st1.hs z (n2 ds z y y2))
      · exact hp.elim
@[reducible, simp] def sPar3 (i j l : Nat) (fa fb fc : Ev → Res (Slot × Ev)) : Ev → Out := fun ε => (fa ε).out fun p => (fb p.2).out fun q => (fc q.2).out fun r =>
  if i < r.2.length ∧ j < r.2.length ∧ l < r.2.length then .nx (((r.2.set i p.1).set j q.1).set l r.1) else .stuck
theorem NewOk.set {G H : Hp} {σ σ' : St} {ε ε' : Ev} {x y : Slot} {v w : V} (r : NewOk M.F G H (Own σ ε) y w) (o : ∀ q, Own σ' ε' q → Own σ ε q ∨ ((∃ ds, x = .ow ds) ∧ v = .ref q)) (ne : ∀ ds es q, y = .ow ds → w = .ref q → x = .ow es → v = .ref q → False) : NewOk M.F G H (Own σ' ε') y w := by
  cases hy : y with
  | em => rw [hy] at r; exact r
  | pu d => rw [hy] at r; exact r
  | ow ds =>
    rw [hy] at r
    obtain ⟨a, vs, rfl, g, h, l, no⟩ := r
    refine ⟨a, vs, rfl, g, h, l, fun z => ?_⟩
    rcases o a z with q | ⟨⟨es, q⟩, q2⟩
    · exact no q
    · exact ne ds es a hy rfl q q2
theorem NewOk.there {G H : Hp} {O : Addr → Prop} {x : Slot} {v : V} (r : NewOk M.F G H O x v) {ds : List D} {q : Addr} (e : x = .ow ds) (e2 : v = .ref q) : H q ≠ none := by
  rw [e] at r
  obtain ⟨a, vs, e3, _, h, _⟩ := r
  rw [e2] at e3
  cases e3
  rw [h]
  exact fun z => by cases z
theorem ps_par3' (c : CO M W k X) {i j l : Nat} {x y z : Str} {px py pz pt : Pos} {kt k2 pt2} {fa fb fc : Ev → Res (Slot × Ev)} (ha : PSl M W X a fa) (hb : PSl M W X b fb) (hcx : PSl M W X c₀ fc) (hci : M.cp = none ∨ i ≠ 0) (hcj : M.cp = none ∨ j ≠ 0) (hcl : M.cp = none ∨ l ≠ 0) (hij : i ≠ j) (hil : i ≠ l) (hjl : j ≠ l)
    (hi : X.N[i]? = some x := by rfl) (hj : X.N[j]? = some y := by rfl) (hl : X.N[l]? = some z := by rfl) (hx : X.env.scope.names.lookup x = some .local := by rfl) (hy : X.env.scope.names.lookup y = some .local := by rfl) (hz : X.env.scope.names.lookup z = some .local := by rfl)
    (h1 : starEach [a, b, c₀] X.env = (false, eval a X.env) :: starEach [b, c₀] X.env := by rfl) (h2 : starEach [b, c₀] X.env = (false, eval b X.env) :: starEach [c₀] X.env := by rfl) (h3 : starEach [c₀] X.env = (false, eval c₀ X.env) :: starEach [] X.env := by rfl)
    (hw : swappedStores [.Tuple [.Name x px, .Name y py, .Name z pz] kt pt] (.Tuple [a, b, c₀] k2 pt2) X.env = pure (some [x, y, z]) := by rfl)
    (hs : swapsWithSole [.Tuple [.Name x px, .Name y py, .Name z pz] kt pt] (.Tuple [a, b, c₀] k2 pt2) pos.line X.env = pure false := by rfl) :
    PS' M W X (.Assign [.Tuple [.Name x px, .Name y py, .Name z pz] kt pt] (.Tuple [a, b, c₀] k2 pt2) pos) (sPar3 i j l fa fb fc) := by
  obtain ⟨ta, ea, qa⟩ := ha
  obtain ⟨tb, eb, qb⟩ := hb
  obtain ⟨tc, ec, qc⟩ := hcx
  refine ⟨_, ps_par3 c.calm c.nd hi hj hl hij hil hjl hx hy hz (L2.pa_cons ea (L2.pa_cons eb (L2.pa_cons ec L2.pa_nil h3) h2) h1) hw hs, fun σ G H ε s E hp => ?_⟩
  refine qa σ G H ε s _ ?_
  simp only [sPar3] at hp
  cases e1 : fa ε with
  | stuck => simp only [e1, Res.out] at hp; exact hp
  | err c => simp only [e1, Res.out] at hp; exact hp
  | ok p =>
    simp only [e1, Res.out] at hp
    intro v G1 H1 s1 st1 r1 n1
    refine qb σ G1 H1 p.2 s1 _ ?_
    cases e2 : fb p.2 with
    | stuck => simp only [e2, Res.out] at hp; exact hp
    | err c => simp only [e2, Res.out] at hp; exact ErrOk.shift s1.sub st1 hp
    | ok q =>
      simp only [e2, Res.out] at hp
      intro w G2 H2 s2 st2 r2 n2
      have st12 := st1.trans s1.sub st2
      refine qc σ G2 H2 q.2 s2 _ ?_
      cases e3 : fc q.2 with
      | stuck => simp only [e3, Res.out] at hp; exact hp
      | err c => simp only [e3, Res.out] at hp; exact ErrOk.shift s2.sub st12 hp
      | ok r =>
        simp only [e3, Res.out] at hp
        split at hp
        · rename_i hl
          intro u G3 H3 s3 st3 r3 n3
          have st := st12.trans s2.sub st3
          have r1a := r1.step s2 st2
          have r1' := r1a.step s3 st3
          have r2' := r2.step s3 st3
          obtain ⟨sA, oA⟩ := s3.setNew hl.1 r1' hci
          have r2A := r2'.set oA (fun ds es z h1 h2 h3 h4 => r1.there h3 h4 (n2 ds z h1 h2))
          have r3A := r3.set oA (fun ds es z h1 h2 h3 h4 => r1a.there h3 h4 (n3 ds z h1 h2))
          obtain ⟨sB, oB⟩ := sA.setNew (i := j) (by rw [List.length_set]; exact hl.2.1) r2A hcj
          have r3B := r3A.set oB (fun ds es z h1 h2 h3 h4 => r2.there h3 h4 (n3 ds z h1 h2))
          obtain ⟨sC, oC⟩ := sB.setNew (i := l) (by rw [List.length_set, List.length_set]; exact hl.2.2) r3B hcl
          refine ⟨v, w, u, rfl, hp _ G3 H3 sC ⟨st.gg, st.hh, st.hs, st.gn, fun z hz => ?_⟩⟩
          rcases oC z hz with y | ⟨⟨ds, y⟩, y2⟩
          · rcases oB z y with y | ⟨⟨ds, y⟩, y2⟩
            · rcases oA z y with y | ⟨⟨ds, y⟩, y2⟩
              · exact st.oo z y
              · exact .inr (n1 ds z y y2)
            · exact .inr (st1.hs z (n2 ds z y y2))
          · exact .inr (st12.hs z (n3 ds z y y2))
        · exact hp.elim
end
end PL
/-! PL, part i: owned lists written; loops; raise. -/
namespace PL
open PySem PySem.Spec PyProof.Rows L2

/-- an owned list has a new content -/
theorem SR.updOw {M : Fr} {G H : Hp} {σ : St} {ε : Ev} (s : SR M G H σ ε) {i : Nat} {ds es : List D} {p : Addr} {ws : List V} (e : ε[i]? = some (.ow ds)) (eσ : σ[i]? = some (some (.ref p))) (r : RpL M.F G es ws) :
    SR M G (upd H p (.lst ws)) σ (ε.set i (.ow es)) ∧ Step G H (Own σ ε) G (upd H p (.lst ws)) (Own σ (ε.set i (.ow es))) := by
  obtain ⟨p', vs, eσ', gp, hp, _⟩ := s.ow e
  rw [eσ] at eσ'
  cases eσ'
  have hi : i < ε.length := (List.getElem?_eq_some_iff.mp e).1
  have gne : ∀ q o, G q = some o → q ≠ p := fun q o h z => by rw [z, gp] at h; cases h
  have owp : Own σ ε p := ⟨i, ds, e, eσ⟩
  have old : ∀ j, j ≠ i → (ε.set i (.ow es))[j]? = ε[j]? := fun j hj => List.getElem?_set_ne (Ne.symm hj)
  have ownB : ∀ (j : Nat) (ds' : List D), (ε.set i (Slot.ow es))[j]? = some (Slot.ow ds') → ∃ ds'' : List D, ε[j]? = some (Slot.ow ds'') := fun j ds' e' => by
    by_cases hj : j = i
    · subst hj; exact ⟨ds, e⟩
    · rw [old j hj] at e'; exact ⟨ds', e'⟩
  have own : ∀ q, Own σ (ε.set i (.ow es)) q → Own σ ε q := fun q ⟨j, ds', e1, e2⟩ => by
    obtain ⟨ds'', e3⟩ := ownB j ds' e1
    exact ⟨j, ds'', e3, e2⟩
  refine ⟨⟨fun q o h => by rw [upd_ne (gne q o h)]; exact s.sub q o h, s.ntb, ?_, by rw [List.length_set]; exact s.len, fun j x o e1 e2 => ?_, fun j l d1 d2 q e1 e2 e3 e4 => ?_, fun q hq => ?_⟩, ⟨fun _ _ h => h, fun q o h _ nn => ?_, fun q h => ?_, fun _ _ h => .inl h, fun q z => .inl (own q z)⟩⟩
  · intro t ht
    obtain ⟨ps, h1, h2, h3⟩ := s.tabs t ht
    refine ⟨ps, ?_, h2, fun pos cv hc => ?_⟩
    · rw [upd_ne (fun z => by rw [z, hp] at h1; cases h1)]; exact h1
    · obtain ⟨cc, e1, e2⟩ := h3 pos cv hc
      refine ⟨cc, e1, ?_⟩
      rw [upd_ne (fun z => by rw [z, hp] at e2; unfold LamX.CodeO at e2; cases e2)]; exact e2
  · by_cases hj : j = i
    · subst hj
      rw [List.getElem?_set_self hi] at e1
      rw [eσ] at e2
      cases e1
      cases e2
      exact ⟨p, ws, rfl, gp, upd_same, r⟩
    · rw [old j hj] at e1
      have h := s.slots j x o e1 e2
      cases x with
      | em => trivial
      | pu d => exact h
      | ow d' =>
        obtain ⟨q, us, eq, n, hq, rr⟩ := h
        refine ⟨q, us, eq, n, ?_, rr⟩
        rw [upd_ne (fun z => hj (s.inj j i d' ds p e1 e (by rw [e2, eq, z]) eσ))]
        exact hq
  · obtain ⟨d1', f1⟩ := ownB j d1 e1
    obtain ⟨d2', f2⟩ := ownB l d2 e2
    exact s.inj j l d1' d2' q f1 f2 e3 e4
  · obtain ⟨a, d', b⟩ := s.cup q hq
    refine ⟨a, ?_⟩
    by_cases h0 : 0 = i
    · rw [← h0, List.getElem?_set_self (by omega)]; exact ⟨es, rfl⟩
    · rw [old 0 h0]; exact ⟨d', b⟩
  · rw [upd_ne (fun z => nn (by rw [z]; exact owp))]; exact h
  · unfold upd at h
    split at h
    · cases h
    · exact h

@[reducible, simp] def getOw (ε : Ev) (i : Nat) : Res (List D) := match ε[i]? with
  | some (.ow ds) => .ok ds
  | _ => .stuck
theorem getOw_ok {ε : Ev} {i : Nat} {ds : List D} (h : getOw ε i = .ok ds) : ε[i]? = some (.ow ds) := by
  unfold getOw at h
  split at h
  · rename_i e; cases h; exact e
  · cases h
theorem getOw_err {ε : Ev} {i c : Nat} : getOw ε i ≠ .err c := by
  unfold getOw
  split <;> exact fun h => by cases h
@[reducible, simp] def sAppend (i : Nat) (f : Ev → Res (D × Ev)) : Ev → Out := fun ε => (getOw ε i).out fun _ => (f ε).out fun p => (getOw p.2 i).out fun ds => if ds.length ≤ 1000000 then .nx (p.2.set i (.ow (ds ++ [p.1]))) else .stuck
@[reducible] def sSetIx (i : Nat) (fe fi : Ev → Res (D × Ev)) : Ev → Out := fun ε => (fe ε).out fun p => (getOw p.2 i).out fun _ => (fi p.2).out fun q => (getOw q.2 i).out fun ds =>
  match q.1 with
  | .int k => match ixN ds.length k with
    | some j => .nx (q.2.set i (.ow (ds.set j p.1)))
    | none => .stuck
  | _ => .stuck
@[reducible] def sPop (i : Nat) : Ev → Out := fun ε => (getOw ε i).out fun ds => match ds[ds.length - 1]? with
  | some _ => .nx (ε.set i (.ow ds.dropLast))
  | none => .stuck
theorem RpL.dropLast {F : Fx} {G : Hp} {ds : List D} {vs : List V} (l : RpL F G ds vs) : RpL F G ds.dropLast vs.dropLast := by
  rw [List.dropLast_eq_take, List.dropLast_eq_take, l.length]
  exact l.take _
theorem ixN_lt {n : Nat} {k : Int} {j : Nat} (h : ixN n k = some j) : j < n := (ixN_seq h).2.1
section
variable {M : Fr} {W : WX} {X : Cx} {k : Nat} {e : Expr} {st : Stmt} {rest : List Stmt} {f g : Ev → Out} {fe fi : Ev → Res (D × Ev)} {pos : Pos}
theorem ps_append' {i : Nat} {x : Str} {px p1 p2 : Pos} {g0 : Ev → Res (D × Ev)} (he : PV M W X e g0) (hN : X.N[i]? = some x := by rfl) (hv : Vis X.env.scope x := by first | exact Or.inl rfl | exact Or.inr (Or.inl rfl) | exact Or.inr (Or.inr rfl)) (hd : (x == ("__debug__" : Str)) = false := by decide) (hcd : (x == ("__classdict__" : Str)) = false := by decide)
    (hs : swapsWith (.Call (.Attribute (.Name x px) "append" p1) [e] [] p2) none pos.line X.env = pure false := by rfl)
    (hline : (p1.endLine == p2.line) = true := by rfl)
    (h : ∀ {to : TE} {t : TA}, PE X (.Name x px) to → PA X [e] t → PE X (.Call (.Attribute (.Name x px) "append" p1) [e] [] p2) (tBM X.K "list" rAppend to t) := by exact fun ho ha => pe_bm PySem.F.plainAttrs_list PySem.F.slot_list_append PySem.F.type_list_append mt_append ho ha)
    (h1 : starEach [e] X.env = (false, eval e X.env) :: starEach [] X.env := by rfl) :
    PS' M W X (.Expr (.Call (.Attribute (.Name x px) "append" p1) [e] [] p2) pos) (sAppend i g0) := by
  obtain ⟨t, et, qt⟩ := he
  refine ⟨_, ps_expr (h (pe_var hN hv hd hcd) (L2.pa_cons et L2.pa_nil h1)) hs, fun σ G H ε s E hp => ?_⟩
  simp only [sAppend] at hp
  cases e0 : getOw ε i with
  | stuck => simp only [e0, Res.out] at hp; exact hp.elim
  | err c => exact absurd e0 getOw_err
  | ok ds0 =>
    simp only [e0, Res.out] at hp
    obtain ⟨a, vs0, ea, ga, ha, _⟩ := s.ow (getOw_ok e0)
    refine ⟨.ref a, ea, .inl ⟨rfl, vs0, .inl (.inl ha)⟩, ?_⟩
    refine qt σ G H ε s _ ?_
    cases e1 : g0 ε with
    | stuck => simp only [e1, Res.out] at hp; exact hp
    | err c => simp only [e1, Res.out] at hp; exact hp
    | ok p =>
      simp only [e1, Res.out] at hp
      intro v G1 H1 s1 st1 rv
      cases e2 : getOw p.2 i with
      | stuck => simp only [e2, Res.out] at hp; exact hp.elim
      | err c => exact absurd e2 getOw_err
      | ok ds =>
        simp only [e2, Res.out] at hp
        split at hp
        · rename_i hz
          obtain ⟨a', vs, ea', ga', ha', l⟩ := s1.ow (getOw_ok e2)
          rw [ea] at ea'
          cases ea'
          obtain ⟨s2, st2⟩ := s1.updOw (getOw_ok e2) ea (l.append (RpL.cons rv RpL.nil))
          refine ⟨a, vs, v, rfl, rfl, ha', ?_, hp _ G1 _ s2 (st1.trans s1.sub st2)⟩
          rw [← l.length]
          have : (1000000 : Nat) < sizeLine := by rw [sizeLine_eq]; decide
          omega
        · exact hp.elim
theorem ps_setIx' {i : Nat} {x : Str} {b : Expr} {px p1 : Pos} (he : PV M W X e fe) (hb : PV M W X b fi) (hN : X.N[i]? = some x := by rfl) (hv : Vis X.env.scope x := by first | exact Or.inl rfl | exact Or.inr (Or.inl rfl) | exact Or.inr (Or.inr rfl)) (hd : (x == ("__debug__" : Str)) = false := by decide) (hcd : (x == ("__classdict__" : Str)) = false := by decide)
    (hs : swapsWithSole [.Subscript (.Name x px) b p1] e pos.line X.env = pure false := by rfl) (hw : swappedStores [.Subscript (.Name x px) b p1] e X.env = pure none := by rfl)
    (h1 : (assignEach [.Subscript (.Name x px) b p1] X.env).map (·.2) = [assign (.Subscript (.Name x px) b p1) X.env] := by rfl)
    (ha : ∀ v, assign (.Subscript (.Name x px) b p1) X.env v = (do
      let ov ← holding [v] (eval (.Name x px) X.env)
      let iv ← holding [v, ov] (eval b X.env)
      standAt p1
      holding [v, ov, iv] (setItem ov iv v)
      release [v, ov, iv] []) := by intro _; rfl) :
    PS' M W X (.Assign [.Subscript (.Name x px) b p1] e pos) (sSetIx i fe fi) := by
  obtain ⟨t, et, qt⟩ := he
  obtain ⟨u, eu, qu⟩ := hb
  refine ⟨_, ps_asg et (pg_sub (pe_var hN hv hd hcd) eu set_list ha) hs hw h1, fun σ G H ε s E hp => ?_⟩
  simp only [sSetIx] at hp
  refine qt σ G H ε s _ ?_
  cases e1 : fe ε with
  | stuck => simp only [e1, Res.out] at hp; exact hp
  | err c => simp only [e1, Res.out] at hp; exact hp
  | ok p =>
    simp only [e1, Res.out] at hp
    intro v G1 H1 s1 st1 rv
    cases e0 : getOw p.2 i with
    | stuck => simp only [e0, Res.out] at hp; exact hp.elim
    | err c => exact absurd e0 getOw_err
    | ok ds0 =>
      simp only [e0, Res.out] at hp
      obtain ⟨a, vs0, ea, ga, ha0, _⟩ := s1.ow (getOw_ok e0)
      refine ⟨.ref a, ea, ?_⟩
      refine qu σ G1 H1 p.2 s1 _ ?_
      have hp1 := hp.shift s1 st1
      cases e2 : fi p.2 with
      | stuck => simp only [e2, Res.out] at hp1; exact hp1
      | err c => simp only [e2, Res.out] at hp1; exact hp1
      | ok q =>
        simp only [e2, Res.out] at hp1
        intro w G2 H2 s2 st2 rw'
        cases e3 : getOw q.2 i with
        | stuck => simp only [e3, Res.out] at hp1; exact hp1.elim
        | err c => exact absurd e3 getOw_err
        | ok ds =>
          simp only [e3, Res.out] at hp1
          split at hp1
          · rename_i kk ek
            rw [ek, rp_int] at rw'
            subst rw'
            split at hp1
            · rename_i j ej
              obtain ⟨a', vs, ea', ga', ha', l⟩ := s2.ow (getOw_ok e3)
              rw [ea] at ea'
              cases ea'
              obtain ⟨s3, st3⟩ := s2.updOw (getOw_ok e3) ea (l.set (rv.mono st2.gg) j)
              exact ⟨a, vs, kk, j, rfl, rfl, ha', by rw [← l.length]; exact ej, hp1 _ G2 _ s3 (st2.trans s2.sub st3)⟩
            · exact hp1.elim
          · exact hp1.elim
theorem ps_pop' {i : Nat} {x : Str} {px p1 p2 : Pos} (hN : X.N[i]? = some x := by rfl) (hv : Vis X.env.scope x := by first | exact Or.inl rfl | exact Or.inr (Or.inl rfl) | exact Or.inr (Or.inr rfl)) (hd : (x == ("__debug__" : Str)) = false := by decide) (hcd : (x == ("__classdict__" : Str)) = false := by decide)
    (hs : swapsWith (.Call (.Attribute (.Name x px) "pop" p1) [] [] p2) none pos.line X.env = pure false := by rfl)
    (h : ∀ {to : TE}, PE X (.Name x px) to → PE X (.Call (.Attribute (.Name x px) "pop" p1) [] [] p2) (tBM0 X.K "list" rPop to) := by exact fun ho => pe_bm0 PySem.F.plainAttrs_list PySem.F.slot_list_pop PySem.F.type_list_pop mt_pop ho) :
    PS' M W X (.Expr (.Call (.Attribute (.Name x px) "pop" p1) [] [] p2) pos) (sPop i) := by
  refine ⟨_, ps_expr (h (pe_var hN hv hd hcd)) hs, fun σ G H ε s E hp => ?_⟩
  simp only [sPop] at hp
  cases e0 : getOw ε i with
  | stuck => simp only [e0, Res.out] at hp; exact hp.elim
  | err c => exact absurd e0 getOw_err
  | ok ds =>
    simp only [e0, Res.out] at hp
    obtain ⟨a, vs, ea, ga, ha, l⟩ := s.ow (getOw_ok e0)
    split at hp
    · rename_i d ed
      obtain ⟨v, ev, rv⟩ := l.get ed
      obtain ⟨s2, st2⟩ := s.updOw (getOw_ok e0) ea l.dropLast
      exact ⟨.ref a, ea, .inl ⟨rfl, vs, .inl (.inl ha)⟩, a, vs, v, rfl, rfl, ha, by rw [← l.length]; exact ev, hp _ G _ s2 st2⟩
    · exact hp.elim

/-! ### for -/
def forF (tgt : D → Ev → Res Ev) (body : Ev → Out) : List D → Ev → Out
  | [], ε => .nx ε
  | x :: xs, ε => match (tgt x ε).ne with
    | .ok ε1 => match body ε1 with
      | .nx ε2 => forF tgt body xs ε2
      | .ct ε2 => forF tgt body xs ε2
      | .bk ε2 => .nx ε2
      | r => r
    | _ => .stuck
@[reducible] def sFor (src : Ev → Res (List D × Ev)) (tgt : D → Ev → Res Ev) (body : Ev → Out) : Ev → Out := fun ε => (src ε).out fun p => forF tgt body p.1 p.2
theorem ps_for' (c : CO M W k X) {tg iter : Expr} {body : List Stmt} {src : Ev → Res (List D × Ev)} {tgt : D → Ev → Res Ev} {is : List Nat} {fb : Ev → Out} (hi : PIt M W X tg iter src) (hg : PTg M X tg tgt is) (hb : PSs' M W X body fb) (hs : ∀ x, foldedSetIterable iter X.env x = pure x := by intro _; rfl) :
    PS' M W X (.For tg iter body [] pos) (sFor src tgt fb) := by
  obtain ⟨wi, ei, qi⟩ := hi
  obtain ⟨gt, eg, qg⟩ := hg
  obtain ⟨tb, eb, qb⟩ := hb
  refine ⟨_, ps_for c.po c.calm ei eg eb hs, fun σ0 G0 H0 ε0 s0 E hp => ?_⟩
  refine qi σ0 G0 H0 ε0 s0 _ ?_
  simp only [sFor] at hp
  cases e0 : src ε0 with
  | stuck => simp only [e0, Res.out] at hp; exact hp
  | err c => simp only [e0, Res.out] at hp; exact hp
  | ok p =>
    simp only [e0, Res.out] at hp
    intro J G1 H1 s1 st1 ij
    have hp1 := hp.shift s1 st1
    refine ⟨fun i m σ H => ∃ G ε, m = p.1.length - i ∧ i ≤ p.1.length ∧ SR M G H σ ε ∧ Step G1 H1 (Own σ0 p.2) G H (Own σ ε) ∧ forF tgt fb (p.1.drop i) ε = forF tgt fb p.1 p.2,
      ⟨p.1.length, G1, p.2, by simp, Nat.zero_le _, s1, Step.refl .., by rw [List.drop_zero]⟩, ?_⟩
    rintro i m σ H ⟨G, ε, hm, hi, s, st, eq⟩
    have it := ij i G H s.hg st.gg
    by_cases hlt : i < p.1.length
    case neg =>
      have e : i = p.1.length := by omega
      refine .inl ⟨it.2 (by omega), ?_⟩
      rw [e, List.drop_length] at eq
      rw [← eq] at hp1
      exact hp1 σ G H s st
    case pos =>
      obtain ⟨go, yld⟩ := it.1 p.1[i] (List.getElem?_eq_getElem hlt)
      have hd : p.1.drop i = p.1[i] :: p.1.drop (i + 1) := List.drop_eq_getElem_cons hlt
      rw [hd] at eq
      refine .inr ⟨go, fun σ' H' => ∃ G ε, i + 1 ≤ p.1.length ∧ SR M G H' σ' ε ∧ Step G1 H1 (Own σ0 p.2) G H' (Own σ' ε) ∧ forF tgt fb (p.1.drop (i + 1)) ε = forF tgt fb p.1 p.2, fun σ' H' ⟨G', ε', h1, h2, h3, h4⟩ => ⟨p.1.length - (i + 1), by omega, G', ε', rfl, h1, h2, h3, h4⟩, fun x H' y => ?_⟩
      obtain ⟨G3, gr, hg3, rx⟩ := yld x H' y
      have s3 : SR M G3 H' σ ε := s.grow gr hg3.sub hg3.ntb hg3.tabs
      have st3 := st.trans s.sub (gr.step (Own σ ε))
      simp only [forF] at eq
      cases e1 : tgt p.1[i] ε with
      | stuck => simp only [e1, Res.ne] at eq; rw [← eq] at hp1; exact hp1.elim
      | err c => simp only [e1, Res.ne] at eq; rw [← eq] at hp1; exact hp1.elim
      | ok ε1 =>
        simp only [e1, Res.ne] at eq
        refine qg p.1[i] x σ G3 H' ε ε1 s3 rx e1 _ fun σ4 s4 o4 _ _ => ?_
        have st4 : Step G1 H1 (Own σ0 p.2) G3 H' (Own σ4 ε1) := st3.trans s3.sub ⟨fun _ _ h => h, fun _ _ h _ _ => h, fun _ h => h, fun _ _ h => .inl h, fun q z => .inl (o4 q z)⟩
        refine qb σ4 G3 H' ε1 s4 _ ?_
        cases e2 : fb ε1 with
        | nx ε2 =>
          rw [e2] at eq
          exact fun σ' G' H'' s' st' => ⟨G', ε2, by omega, s', st4.trans s4.sub st', eq⟩
        | ct ε2 =>
          rw [e2] at eq
          exact fun σ' G' H'' s' st' => ⟨G', ε2, by omega, s', st4.trans s4.sub st', eq⟩
        | bk ε2 =>
          rw [e2] at eq
          rw [← eq] at hp1
          exact fun σ' G' H'' s' st' => hp1 σ' G' H'' s' (st4.trans s4.sub st')
        | rt d ε2 =>
          rw [e2] at eq
          rw [← eq] at hp1
          exact fun v σ' G' H'' s' st' r => hp1 v σ' G' H'' s' (st4.trans s4.sub st') r
        | err c =>
          rw [e2] at eq
          rw [← eq] at hp1
          exact ErrOk.shift s4.sub st4 hp1
        | stuck =>
          rw [e2] at eq
          rw [← eq] at hp1
          exact hp1.elim

/-! ### while -/
def whileF (c : Ev → Res (Bool × Ev)) (body : Ev → Out) : Nat → Ev → Out
  | 0, _ => .stuck
  | n + 1, ε => (c ε).out fun p => if p.1 then (match body p.2 with
      | .nx ε2 => whileF c body n ε2
      | .ct ε2 => whileF c body n ε2
      | .bk ε2 => .nx ε2
      | r => r) else .nx p.2
theorem ps_while' (co : CO M W k X) (n : Nat) {c : Expr} {body : List Stmt} {fc : Ev → Res (Bool × Ev)} {fb : Ev → Out} (hc : PB M W X c fc) (hb : PSs' M W X body fb) : PS' M W X (.While c body [] pos) (whileF fc fb n) := by
  obtain ⟨tc, ec, qc⟩ := hc
  obtain ⟨tb, eb, qb⟩ := hb
  refine ⟨_, ps_while co.po ec eb, fun σ0 G1 H1 ε0 s1 E hp1 => ?_⟩
  refine ⟨fun m σ H => ∃ G ε, SR M G H σ ε ∧ Step G1 H1 (Own σ0 ε0) G H (Own σ ε) ∧ whileF fc fb m ε = whileF fc fb n ε0, ⟨n, G1, ε0, s1, Step.refl .., rfl⟩, ?_⟩
  rintro m σ H ⟨G, ε, s, st, eq⟩
  cases m with
  | zero =>
    simp only [whileF] at eq
    rw [← eq] at hp1; exact hp1.elim
  | succ m =>
    simp only [whileF] at eq
    refine qc σ G H ε s _ ?_
    cases e1 : fc ε with
    | stuck => simp only [e1, Res.out] at eq; rw [← eq] at hp1; exact hp1.elim
    | err c => simp only [e1, Res.out] at eq; rw [← eq] at hp1; exact ErrOk.shift s.sub st hp1
    | ok p =>
      simp only [e1, Res.out] at eq
      intro b G2 H2 s2 st2 rb
      simp only [RB] at rb
      subst rb
      have st12 := st.trans s.sub st2
      cases hb : p.1 with
      | false =>
        rw [hb, if_neg Bool.false_ne_true] at eq
        rw [if_neg Bool.false_ne_true]
        rw [← eq] at hp1
        exact hp1 σ G2 H2 s2 st12
      | true =>
        rw [hb, if_pos rfl] at eq
        rw [if_pos rfl]
        refine ⟨fun σ' H' => ∃ G ε, SR M G H' σ' ε ∧ Step G1 H1 (Own σ0 ε0) G H' (Own σ' ε) ∧ whileF fc fb m ε = whileF fc fb n ε0, fun σ' H' h => ⟨m, Nat.lt_succ_self m, h⟩, ?_⟩
        refine qb σ G2 H2 p.2 s2 _ ?_
        cases e2 : fb p.2 with
        | nx ε2 =>
          rw [e2] at eq
          exact fun σ' G' H'' s' st' => ⟨G', ε2, s', st12.trans s2.sub st', eq⟩
        | ct ε2 =>
          rw [e2] at eq
          exact fun σ' G' H'' s' st' => ⟨G', ε2, s', st12.trans s2.sub st', eq⟩
        | bk ε2 =>
          rw [e2] at eq
          rw [← eq] at hp1
          exact fun σ' G' H'' s' st' => hp1 σ' G' H'' s' (st12.trans s2.sub st')
        | rt d ε2 =>
          rw [e2] at eq
          rw [← eq] at hp1
          exact fun v σ' G' H'' s' st' r => hp1 v σ' G' H'' s' (st12.trans s2.sub st') r
        | err c =>
          rw [e2] at eq
          rw [← eq] at hp1
          exact ErrOk.shift s2.sub st12 hp1
        | stuck =>
          rw [e2] at eq
          rw [← eq] at hp1
          exact hp1.elim

/-! ### raise X('..') -/
/-- what the top has of an own class of errors -/
structure ErrC (K : PySem.W.Frag) (mg : Str → Option Value) (x : Str) (C : Addr) : Prop where
  gC : mg x = some (.ref C)
  ex : PySem.W.excIn K C [.type "ValueError", .type "Exception", .type "BaseException", .type "object"] "ValueError.__new__" = true
  kC : PySem.W.keepIn K (.ref C) = true
  bC : PySem.W.subIn K (.ref C) (.type "BaseException") = some true
  tC : PySem.W.typeIn K (.ref C) = some (.type "type")
theorem ps_raise' (c : CO M W k X) {x m : Str} {ci : Nat} {j : Nat} {p p2 p3 : Pos} (h : ErrC X.K X.mg x (M.F.ca ci)) (hg : Gl X x := by rfl) (hdb : (x == ("__debug__" : Str)) = false := by decide) :
    PS' M W X (.Raise (some (.Call (.Name x p) [.Constant (.str m) j p2] [] p3)) none pos) (fun _ => .err ci) := by
  refine ⟨_, L2N.ps_raise c.calm c.tk (L2N.pmk_own PySem.F.excBase_ValueError h.ex h.gC h.kC (raises_own h.bC h.tC) hg hdb), fun σ G H ε s E hp => ?_⟩
  exact hp σ G H ε s (Step.refl ..)
end
end PL
/-! PL, part j: defs and their calls. -/
namespace PL
open PySem PySem.Spec PyProof.Rows L2

def CallPost (F : Fx) (G H : Hp) (r : Res D) (Q : VK) (E : XK) : Prop :=
  match r with
  | .ok d => ∀ v G' H', Grow G H G' H' → HG F G' H' → Rp F G' d v → Q v H'
  | .err c => ∀ G' H', Grow G H G' H' → HG F G' H' → E (.ref (F.ca c)) none H'
  | .stuck => False
/-- the promise of a def whose arguments are known values -/
def SpP (F : Fx) (n : Nat) (g : List D → Res D) : Sp := fun vs H Q E => ∃ (ds : List D) (G : Hp), ds.length = n ∧ HG F G H ∧ RpL F G ds vs ∧ CallPost F G H (g ds) Q E
/-- .. whose first argument is a list that it may change -/
def SpC (F : Fx) (n : Nat) (g : List D → List D → Res (D × List D)) : Sp := fun vs H Q E => ∃ (p : Addr) (ws : List V) (cs ds : List D) (rest : List V) (G : Hp), vs = .ref p :: rest ∧ ds.length = n ∧ HG F G H ∧ G p = none ∧ H p = some (.lst ws) ∧
  RpL F G cs ws ∧ RpL F G ds rest ∧ match g cs ds with
    | .ok r => ∀ v G' H' ws', Step G H (· = p) G' H' (· = p) → HG F G' H' → G' p = none → H' p = some (.lst ws') → RpL F G' r.2 ws' → Rp F G' r.1 v → Q v H'
    | _ => False

structure DOk (F : Fx) (P : Program) (w : World) (K : PySem.W.Frag) (mg : Str → Option Value) (base : Heap) (x : Str) (k n : Nat) (sp : Sp) : Prop where
  ex : ∃ (f : Addr) (fd : FuncData) (ps : List Str), FnOk P w K mg base (L2N.CX P w) k f fd ps sp ∧ mg x = some (.ref f) ∧ PySem.W.keepIn K (.ref f) = true ∧ Binds K fd ps []

section
variable {M : Fr} {W : WX} {X : Cx} {k : Nat} {e : Expr} {es : List Expr} {pos : Pos}
/-- f(e, ..) of a def of the text -/
theorem pv_call (c : CO M W k X) {x : Str} {k' n : Nat} {g : List D → Res D} {p : Pos} {fs : Ev → Res (List D × Ev)} (d : DOk M.F X.prog X.w X.K X.mg X.base x k' n (SpP M.F n g)) (hk : k' ≤ k) (ha : PA' M W X (e :: es) fs) (hn : (e :: es).length = n := by rfl) (hg : Gl X x := by rfl) (hdb : (x == ("__debug__" : Str)) = false := by decide)
    (he : starEach (e :: es) X.env = (false, eval e X.env) :: starEach es X.env := by rfl) (hpl : (backTo pos (starEach es X.env)).any (·.1) = false := by rfl) :
    PV M W X (.Call (.Name x p) (e :: es) [] pos) (eCB g fs) := by
  obtain ⟨f, fd, ps, F, gm, kp, b⟩ := d.ex
  obtain ⟨⟨t, et, qt⟩, hl⟩ := ha
  refine ⟨_, pe_callS F (c.hr.mono hk) hg gm kp b (fun σ => L2N.passAt c.tk σ) et hdb he hpl, fun σ G H ε s Q hp => ?_⟩
  refine qt σ G H ε s _ ?_
  simp only [eCB] at hp
  cases e1 : fs ε with
  | stuck => rw [e1] at hp; exact hp
  | err c => rw [e1] at hp; exact hp
  | ok q =>
    rw [e1] at hp
    intro vs G1 H1 s1 st1 rs
    have hp1 : Post M W σ G1 H1 q.2 (Rp M.F) ((g q.1).bind fun d => .ok (d, q.2)) Q := Post.shift s1 st1 hp
    refine ⟨q.1, G1, by rw [hl _ _ e1]; exact hn, s1.hg, rs, ?_⟩
    cases e2 : g q.1 with
    | stuck => rw [e2] at hp1; exact hp1
    | err cc =>
      rw [e2] at hp1
      exact fun G' H' gr hg' => hp1 σ G' H' q.2 (s1.grow gr hg'.sub hg'.ntb hg'.tabs) (gr.step _)
    | ok d =>
      rw [e2] at hp1
      exact fun v G' H' gr hg' r => hp1 v G' H' (s1.grow gr hg'.sub hg'.ntb hg'.tabs) (gr.step _) r

/-- f(cup, e, ..), cup a list of one's own -/
@[reducible] def eCallC (i : Nat) (g : List D → List D → Res (D × List D)) (fs : Ev → Res (List D × Ev)) : Ev → Res (D × Ev) := fun ε =>
  (getOw ε i).bind fun _ => (fs ε).bind fun p => (getOw p.2 i).bind fun cs => (g cs p.1).ne.bind fun r => .ok (r.1, p.2.set i (.ow r.2))
theorem pv_callC (c : CO M W k X) (i : Nat) {x y : Str} {k' n : Nat} {g : List D → List D → Res (D × List D)} {p py : Pos} {fs : Ev → Res (List D × Ev)} (d : DOk M.F X.prog X.w X.K X.mg X.base x k' (n + 1) (SpC M.F n g)) (hk : k' ≤ k) (ha : PA' M W X es fs) (hn : es.length = n := by rfl)
    (hN : X.N[i]? = some y := by rfl) (hv : Vis X.env.scope y := by first | exact Or.inl rfl | exact Or.inr (Or.inl rfl) | exact Or.inr (Or.inr rfl)) (hd : (y == ("__debug__" : Str)) = false := by decide) (hcd : (y == ("__classdict__" : Str)) = false := by decide)
    (hg : Gl X x := by rfl) (hdb : (x == ("__debug__" : Str)) = false := by decide)
    (he : starEach (.Name y py :: es) X.env = (false, eval (.Name y py) X.env) :: starEach es X.env := by rfl) (hpl : (backTo pos (starEach es X.env)).any (·.1) = false := by rfl) :
    PV M W X (.Call (.Name x p) (.Name y py :: es) [] pos) (eCallC i g fs) := by
  obtain ⟨f, fd, ps, F, gm, kp, b⟩ := d.ex
  obtain ⟨⟨t, et, qt⟩, hl⟩ := ha
  refine ⟨_, pe_callS F (c.hr.mono hk) hg gm kp b (fun σ => L2N.passAt c.tk σ) (L2.pa_cons (pe_var (i := i) hN hv hd hcd) et he) hdb he hpl, fun σ G H ε s Q hp => ?_⟩
  simp only [eCallC] at hp
  cases e0 : getOw ε i with
  | stuck => rw [e0] at hp; exact hp.elim
  | err c => exact absurd e0 getOw_err
  | ok ds0 =>
    rw [e0] at hp
    simp only [Res.bind_ok] at hp
    obtain ⟨a, vs0, ea, ga, ha0, _⟩ := s.ow (getOw_ok e0)
    refine ⟨.ref a, ea, ?_⟩
    refine qt σ G H ε s _ ?_
    cases e1 : fs ε with
    | stuck => rw [e1] at hp; exact hp
    | err c => rw [e1] at hp; exact hp
    | ok q =>
      rw [e1] at hp
      simp only [Res.bind_ok] at hp
      intro vs G1 H1 s1 st1 rs
      cases e2 : getOw q.2 i with
      | stuck => rw [e2] at hp; exact hp.elim
      | err c => exact absurd e2 getOw_err
      | ok cs =>
        rw [e2] at hp
        simp only [Res.bind_ok] at hp
        obtain ⟨a', ws, ea', ga', ha', l⟩ := s1.ow (getOw_ok e2)
        rw [ea] at ea'
        cases ea'
        have hp1 : Post M W σ G1 H1 q.2 (Rp M.F) ((g cs q.1).ne.bind fun r => .ok (r.1, q.2.set i (.ow r.2))) Q := Post.shift s1 st1 hp
        refine ⟨a, ws, cs, q.1, vs, G1, rfl, by rw [hl _ _ e1]; exact hn, s1.hg, ga', ha', l, rs, ?_⟩
        cases e3 : g cs q.1 with
        | stuck => rw [e3] at hp1; exact hp1
        | err cc => rw [e3] at hp1; exact hp1
        | ok r =>
          rw [e3] at hp1
          intro v G' H' ws' st' hg' ga2 ha2 l2 rv
          have hq := getOw_ok e2
          have hi : i < q.2.length := (List.getElem?_eq_some_iff.mp hq).1
          have old : ∀ j, j ≠ i → (q.2.set i (Slot.ow r.2))[j]? = q.2[j]? := fun j hj => List.getElem?_set_ne (Ne.symm hj)
          have ownB : ∀ (j : Nat) (ds' : List D), (q.2.set i (Slot.ow r.2))[j]? = some (Slot.ow ds') → ∃ ds'' : List D, q.2[j]? = some (Slot.ow ds'') := fun j ds' e' => by
            by_cases hj : j = i
            · subst hj; exact ⟨cs, hq⟩
            · rw [old j hj] at e'; exact ⟨ds', e'⟩
          have own : ∀ z, Own σ (q.2.set i (.ow r.2)) z → Own σ q.2 z := fun z ⟨j, ds', f1, f2⟩ => by
            obtain ⟨ds'', f3⟩ := ownB j ds' f1
            exact ⟨j, ds'', f3, f2⟩
          have owa : Own σ q.2 a := ⟨i, cs, hq, ea⟩
          have sr : SR M G' H' σ (q.2.set i (.ow r.2)) := by
            refine ⟨hg'.sub, hg'.ntb, hg'.tabs, by rw [List.length_set]; exact s1.len, fun j xx o f1 f2 => ?_, fun j l d1 d2 z f1 f2 f3 f4 => ?_, fun z hz => ?_⟩
            · by_cases hj : j = i
              · subst hj
                rw [List.getElem?_set_self hi] at f1
                rw [ea] at f2
                cases f1
                cases f2
                exact ⟨a, ws', rfl, ga2, ha2, l2⟩
              · rw [old j hj] at f1
                have h := s1.slots j xx o f1 f2
                cases xx with
                | em => trivial
                | pu d =>
                  obtain ⟨v, ev, rr⟩ := h
                  exact ⟨v, ev, rr.mono st'.gg⟩
                | ow d' =>
                  obtain ⟨z, us, ez, nz, hz, rr⟩ := h
                  have hne : z ≠ a := fun y => hj (s1.inj j i d' cs a f1 hq (by rw [f2, ez, y]) ea)
                  refine ⟨z, us, ez, ?_, st'.hh _ _ hz (fun ps y => by cases y) hne, rr.mono st'.gg⟩
                  cases qz : G' z with
                  | none => rfl
                  | some u =>
                    rcases st'.gn z u qz with y | y | y
                    · rw [nz] at y; cases y
                    · rw [hz] at y; cases y
                    · exact (hne y).elim
            · obtain ⟨d1', h1⟩ := ownB j d1 f1
              obtain ⟨d2', h2⟩ := ownB l d2 f2
              exact s1.inj j l d1' d2' z h1 h2 f3 f4
            · obtain ⟨aa, d', bb⟩ := s1.cup z hz
              refine ⟨aa, ?_⟩
              by_cases h0 : 0 = i
              · rw [← h0, List.getElem?_set_self (by omega)]; exact ⟨r.2, rfl⟩
              · rw [old 0 h0]; exact ⟨d', bb⟩
          refine hp1 v G' H' sr ⟨st'.gg, fun z o h nt nn => st'.hh z o h nt fun y => nn (by rw [y]; exact owa), st'.hs, fun z o h => ?_, fun z h => .inl (own z h)⟩ rv
          rcases st'.gn z o h with y | y | y
          · exact .inl y
          · exact .inr (.inl y)
          · exact .inr (.inr (by rw [y]; exact owa))
end

/-! ### a def by its body -/
@[simp] def startE (n : Nat) (ds : List D) : Ev := ds.map .pu ++ List.replicate (n - ds.length) .em
@[reducible, simp] def outRes (r : Out) : Res D := match r with
  | .nx _ => .ok .non
  | .rt d _ => .ok d
  | .err c => .err c
  | _ => .stuck
theorem start_get (N : List Str) (vs : List V) (i : Nat) : (L2.start N vs)[i]? = if i < vs.length then (vs[i]?).map some else if i < N.length then some none else none := by
  unfold L2.start
  by_cases h : i < vs.length
  · rw [if_pos h, List.getElem?_append_left (by rw [List.length_map]; exact h), List.getElem?_map]
  · rw [if_neg h, List.getElem?_append_right (by rw [List.length_map]; omega), List.length_map]
    by_cases h2 : i < N.length
    · rw [if_pos h2, List.getElem?_replicate, if_pos (by omega)]
    · rw [if_neg h2, List.getElem?_replicate, if_neg (by omega)]
theorem startE_get (n : Nat) (ds : List D) (i : Nat) : (startE n ds)[i]? = if i < ds.length then (ds[i]?).map .pu else if i < n then some .em else none := by
  unfold startE
  by_cases h : i < ds.length
  · rw [if_pos h, List.getElem?_append_left (by rw [List.length_map]; exact h), List.getElem?_map]
  · rw [if_neg h, List.getElem?_append_right (by rw [List.length_map]; omega), List.length_map]
    by_cases h2 : i < n
    · rw [if_pos h2, List.getElem?_replicate, if_pos (by omega)]
    · rw [if_neg h2, List.getElem?_replicate, if_neg (by omega)]
theorem sr_start {F : Fx} {G H : Hp} {N : List Str} {ds : List D} {vs : List V} (hg : HG F G H) (l : RpL F G ds vs) (hn : ds.length ≤ N.length) : SR ⟨F, none⟩ G H (L2.start N vs) (startE N.length ds) := by
  have noow : ∀ (i : Nat) (es : List D), (startE N.length ds)[i]? ≠ some (.ow es) := fun i es e => by
    rw [startE_get] at e
    split at e
    · cases q : ds[i]? with
      | none => rw [q] at e; cases e
      | some d => rw [q] at e; cases e
    · split at e <;> cases e
  refine ⟨hg.sub, hg.ntb, hg.tabs, ?_, fun i x o e1 e2 => ?_, fun i j d1 d2 q e1 _ _ _ => absurd e1 (noow i d1), fun p h => by cases h⟩
  · unfold startE L2.start
    simp only [List.length_append, List.length_map, List.length_replicate]
    rw [l.length]
  · rw [startE_get] at e1
    rw [start_get, ← l.length] at e2
    by_cases h : i < ds.length
    · rw [if_pos h] at e1 e2
      rw [List.getElem?_eq_getElem h] at e1
      cases e1
      obtain ⟨v, ev, r⟩ := l.get (List.getElem?_eq_getElem h)
      rw [ev] at e2
      cases e2
      exact ⟨v, rfl, r⟩
    · rw [if_neg h] at e1
      split at e1
      · cases e1; trivial
      · cases e1
theorem own_start {F : Fx} {N : List Str} {ds : List D} {vs : List V} {q : Addr} : ¬ Own (L2.start N vs) (startE N.length ds) q := fun ⟨i, es, e, _⟩ => by
  rw [startE_get] at e
  split at e
  · cases q : ds[i]? with
    | none => rw [q] at e; cases e
    | some d => rw [q] at e; cases e
  · split at e <;> cases e

/-- as Fun.okX, over exceptions whose context is None -/
theorem _root_.L2.Fun.okN {P : Program} {w : World} {K : PySem.W.Frag} {mg : Str → Option Value} {base : Heap} {x qual : Str} {st : Stmt} {f : Addr} {fd : FuncData} {N ps : List Str} {k : Nat} {sp : Sp} (Fu : Fun K x qual st f fd) (S : FnScope N ps (defScope st))
    (len : ∀ vs H Q E, sp vs H Q E → vs.length = ps.length)
    (hb : ∀ (cdv : Value) (A : Around) (outer : List Env) (s : Shared) (H : Hp) (vs : List V) (Q : VK) (E : XK), Room k (A.deeper (envOfC qual (defScope st) s.heap.objs.size f cdv)) → sp vs H Q E →
      ∃ t, PSs (cxOf (L2N.CX P w) P w K mg base N qual (defScope st) f cdv A outer s H E) (defBody st) t ∧ t { nx := fun _ H' => Q .non H', rt := Q } (L2.start N vs) H) :
    FnOk P w K mg base (L2N.CX P w) (k + 1) f fd ps sp := by
  obtain ⟨_, _, _, _, _, _, cdv, _, _, rfl, lk, hcd⟩ := Fu.ex
  exact fn_of lk hcd S len fun A outer s H vs Q E => hb cdv A outer s H vs Q E

abbrev WE0 (E : XK) : WX := fun cls d _ H => E cls d H
section
variable {P : Program} {w : World} {K : PySem.W.Frag} {mg : Str → Option Value} {base : Heap}
theorem co_fn {F : Fx} (hF : F.K = K) {cp : Option Addr} {N ps : List Str} {qual : Str} {sc : Scope} (S : FnScope N ps sc) {f : Addr} {cdv : Value} {A : Around} {outer : List Env} {s : Shared} {H : Hp} {E : XK} {k : Nat} (hr : Room k (A.deeper (envOfC qual sc s.heap.objs.size f cdv))) :
    CO ⟨F, cp⟩ (WE0 E) k (cxOf (L2N.CX P w) P w K mg base N qual sc f cdv A outer s H E) :=
  ⟨hF.symm, rfl, L2N.takes_of rfl rfl rfl rfl, S.nd, hr, passes_of rfl⟩
/-- a def whose arguments are known values -/
theorem fn_pure {F : Fx} (hF : F.K = K) {x qual : Str} {st : Stmt} {f : Addr} {fd : FuncData} {N ps : List Str} {k n : Nat} {g : List D → Res D} {body : Ev → Out} (Fu : Fun K x qual st f fd) (S : FnScope N ps (defScope st)) (hn : ps.length = n) (hN : n ≤ N.length)
    (hb : ∀ (cdv : Value) (A : Around) (outer : List Env) (s : Shared) (H : Hp) (E : XK), CO ⟨F, none⟩ (WE0 E) k (cxOf (L2N.CX P w) P w K mg base N qual (defScope st) f cdv A outer s H E) → PSs' ⟨F, none⟩ (WE0 E) (cxOf (L2N.CX P w) P w K mg base N qual (defScope st) f cdv A outer s H E) (defBody st) body)
    (hg : ∀ ds, ds.length = n → g ds = outRes (body (startE N.length ds))) : FnOk P w K mg base (L2N.CX P w) (k + 1) f fd ps (SpP F n g) := by
  refine Fu.okN S (fun vs H Q E ⟨ds, G, h1, h2, h3, _⟩ => by rw [← h3.length, h1, hn]) fun cdv A outer s H vs Q E hr h => ?_
  obtain ⟨ds, G, h1, h2, h3, h4⟩ := h
  obtain ⟨t, et, qt⟩ := hb cdv A outer s H E (co_fn hF S hr)
  refine ⟨t, et, qt _ G H (startE N.length ds) (sr_start h2 h3 (by omega)) _ ?_⟩
  rw [hg ds h1] at h4
  have grow : ∀ {G' H' : Hp} {O' : Addr → Prop}, Step G H (Own (L2.start N vs) (startE N.length ds)) G' H' O' → Grow G H G' H' := fun {G' H' O'} st =>
    ⟨st.gg, fun q o h nt => st.hh q o h nt (own_start (F := F)), st.hs, fun q o h => (st.gn q o h).elim .inl fun z => z.elim .inr fun z => (own_start (F := F) z).elim⟩
  cases e : body (startE N.length ds) with
  | nx ε' => rw [e] at h4; exact fun σ' G' H' s' st' => h4 .non G' H' (grow st') s'.hg (rp_non.mpr rfl)
  | rt d ε' => rw [e] at h4; exact fun v σ' G' H' s' st' r => h4 v G' H' (grow st') s'.hg r
  | err c => rw [e] at h4; exact fun σ' G' H' ε' s' st' => h4 G' H' (grow st') s'.hg
  | bk ε' => rw [e] at h4; exact h4.elim
  | ct ε' => rw [e] at h4; exact h4.elim
  | stuck => rw [e] at h4; exact h4.elim

def startC (n : Nat) (cs ds : List D) : Ev := .ow cs :: (ds.map .pu ++ List.replicate (n - (ds.length + 1)) .em)
@[reducible] def outC (r : Out) : Res (D × List D) := match r with
  | .nx ε => (getOw ε 0).bind fun cs => .ok (.non, cs)
  | .rt d ε => (getOw ε 0).bind fun cs => .ok (d, cs)
  | _ => .stuck
theorem startC_succ (n : Nat) (cs ds : List D) (i : Nat) : (startC n cs ds)[i + 1]? = (startE (n - 1) ds)[i]? := by
  unfold startC startE
  rw [List.getElem?_cons_succ, show n - 1 - ds.length = n - (ds.length + 1) by omega]
theorem sr_startC {F : Fx} {G H : Hp} {N : List Str} {cs ds : List D} {p : Addr} {ws vs : List V} (hg : HG F G H) (gp : G p = none) (hp : H p = some (.lst ws)) (lc : RpL F G cs ws) (l : RpL F G ds vs) (hn : ds.length + 1 ≤ N.length) :
    SR ⟨F, some p⟩ G H (L2.start N (.ref p :: vs)) (startC N.length cs ds) := by
  have noow : ∀ (i : Nat) (es : List D), (startC N.length cs ds)[i + 1]? ≠ some (.ow es) := fun i es e => by
    rw [startC_succ, startE_get] at e
    split at e
    · cases q : ds[i]? with
      | none => rw [q] at e; cases e
      | some d => rw [q] at e; cases e
    · split at e <;> cases e
  refine ⟨hg.sub, hg.ntb, hg.tabs, ?_, fun i x o e1 e2 => ?_, fun i j d1 d2 q e1 e2 _ _ => ?_, fun q h => ?_⟩
  · unfold startC L2.start
    simp only [List.length_append, List.length_map, List.length_replicate, List.length_cons]
    rw [l.length]
    omega
  · cases i with
    | zero =>
      have a1 : (startC N.length cs ds)[0]? = some (.ow cs) := rfl
      have a2 : (L2.start N (.ref p :: vs))[0]? = some (some (.ref p)) := rfl
      rw [a1] at e1
      rw [a2] at e2
      cases e1
      cases e2
      exact ⟨p, ws, rfl, gp, hp, lc⟩
    | succ i =>
      rw [startC_succ, startE_get] at e1
      rw [start_get] at e2
      simp only [List.length_cons] at e2
      by_cases h : i < ds.length
      · rw [if_pos h, List.getElem?_eq_getElem h] at e1
        cases e1
        obtain ⟨v, ev, r⟩ := l.get (List.getElem?_eq_getElem h)
        rw [if_pos (by rw [← l.length]; omega), List.getElem?_cons_succ, ev] at e2
        cases e2
        exact ⟨v, rfl, r⟩
      · rw [if_neg h] at e1
        split at e1
        · cases e1; trivial
        · cases e1
  · cases i with
    | zero =>
      cases j with
      | zero => rfl
      | succ j => exact absurd e2 (noow j d2)
    | succ i => exact absurd e1 (noow i d1)
  · cases h
    exact ⟨rfl, cs, rfl⟩
theorem own_startC {N : List Str} {cs ds : List D} {p q : Addr} {vs : List V} (h : Own (L2.start N (.ref p :: vs)) (startC N.length cs ds) q) : q = p := by
  obtain ⟨i, es, e, e2⟩ := h
  cases i with
  | zero =>
    have a2 : (L2.start N (.ref p :: vs))[0]? = some (some (.ref p)) := rfl
    rw [a2] at e2
    cases e2; rfl
  | succ i =>
    rw [startC_succ, startE_get] at e
    split at e
    · cases q : ds[i]? with
      | none => rw [q] at e; cases e
      | some d => rw [q] at e; cases e
    · split at e <;> cases e
theorem fn_cup {F : Fx} (hF : F.K = K) {x qual : Str} {st : Stmt} {f : Addr} {fd : FuncData} {N ps : List Str} {k n : Nat} {g : List D → List D → Res (D × List D)} {body : Ev → Out} (Fu : Fun K x qual st f fd) (S : FnScope N ps (defScope st)) (hn : ps.length = n + 1) (hN : n + 1 ≤ N.length)
    (hb : ∀ (p : Addr) (cdv : Value) (A : Around) (outer : List Env) (s : Shared) (H : Hp) (E : XK), CO ⟨F, some p⟩ (WE0 E) k (cxOf (L2N.CX P w) P w K mg base N qual (defScope st) f cdv A outer s H E) → PSs' ⟨F, some p⟩ (WE0 E) (cxOf (L2N.CX P w) P w K mg base N qual (defScope st) f cdv A outer s H E) (defBody st) body)
    (hg : ∀ cs ds, ds.length = n → g cs ds = outC (body (startC N.length cs ds))) : FnOk P w K mg base (L2N.CX P w) (k + 1) f fd ps (SpC F n g) := by
  refine Fu.okN S (fun vs H Q E ⟨p, ws, cs, ds, rest, G, h0, h1, h2, _, _, _, h3, _⟩ => by rw [h0, List.length_cons, ← h3.length, h1, hn]) fun cdv A outer s H vs Q E hr h => ?_
  obtain ⟨p, ws, cs, ds, rest, G, rfl, h1, h2, gp, hp, lc, l, h4⟩ := h
  obtain ⟨t, et, qt⟩ := hb p cdv A outer s H E (co_fn hF S hr)
  have s0 : SR ⟨F, some p⟩ G H (L2.start N (.ref p :: rest)) (startC N.length cs ds) := sr_startC h2 gp hp lc l (by omega)
  refine ⟨t, et, qt _ G H (startC N.length cs ds) s0 _ ?_⟩
  rw [hg cs ds h1] at h4
  have own0 : Own (L2.start N (.ref p :: rest)) (startC N.length cs ds) p := ⟨0, cs, rfl, rfl⟩
  have fin : ∀ {σ' : St} {ε' : Ev} {G' H' : Hp} {cs' : List D}, SR ⟨F, some p⟩ G' H' σ' ε' → Step G H (Own (L2.start N (.ref p :: rest)) (startC N.length cs ds)) G' H' (Own σ' ε') → getOw ε' 0 = .ok cs' →
      Step G H (· = p) G' H' (· = p) ∧ HG F G' H' ∧ G' p = none ∧ ∃ ws', H' p = some (.lst ws') ∧ RpL F G' cs' ws' := fun {σ' ε' G' H' cs'} s' st e => by
    obtain ⟨a, ws', ea, ga, ha, la⟩ := s'.ow (getOw_ok e)
    obtain ⟨b, _⟩ := s'.cup p rfl
    rw [b] at ea
    cases ea
    refine ⟨⟨st.gg, fun q o h nt nn => st.hh q o h nt fun z => nn (own_startC z), st.hs, fun q o h => ?_, fun q h => .inl h⟩, s'.hg, ga, ws', ha, la⟩
    rcases st.gn q o h with z | z | z
    · exact .inl z
    · exact .inr (.inl z)
    · exact .inr (.inr (own_startC z))
  cases e : body (startC N.length cs ds) with
  | nx ε' =>
    rw [e] at h4
    intro σ' G' H' s' st'
    cases e2 : getOw ε' 0 with
    | stuck => simp only [outC, e2, Res.bind] at h4
    | err c => exact absurd e2 getOw_err
    | ok cs' =>
      simp only [outC, e2, Res.bind] at h4
      obtain ⟨a, b, c, ws', d, l'⟩ := fin s' st' e2
      exact h4 .non G' H' ws' a b c d l' (rp_non.mpr rfl)
  | rt d ε' =>
    rw [e] at h4
    intro v σ' G' H' s' st' r
    cases e2 : getOw ε' 0 with
    | stuck => simp only [outC, e2, Res.bind] at h4
    | err c => exact absurd e2 getOw_err
    | ok cs' =>
      simp only [outC, e2, Res.bind] at h4
      obtain ⟨a, b, c, ws', dd, l'⟩ := fin s' st' e2
      exact h4 v G' H' ws' a b c dd l' r
  | err c => rw [e] at h4; exact h4.elim
  | bk ε' => rw [e] at h4; exact h4.elim
  | ct ε' => rw [e] at h4; exact h4.elim
  | stuck => rw [e] at h4; exact h4.elim
end
end PL
/-! PL, part k: chains of comparisons. -/
namespace PL
open PySem PySem.Spec PyProof.Rows L2

@[reducible, simp] def eCh2 (g1 g2 : D → D → Res D) (fa fb fc : Ev → Res (D × Ev)) : Ev → Res (D × Ev) := fun ε => (fa ε).bind fun p => (fb p.2).bind fun q => (g1 p.1 q.1).bind fun z => (asB z).bind fun t =>
  if t then (fc q.2).bind fun r => (g2 q.1 r.1).bind fun d => .ok (d, r.2) else .ok (.bl false, q.2)
@[reducible, simp] def eCh3 (g1 g2 g3 : D → D → Res D) (fa fb fc fd : Ev → Res (D × Ev)) : Ev → Res (D × Ev) := fun ε => (fa ε).bind fun p => (fb p.2).bind fun q => (g1 p.1 q.1).bind fun z => (asB z).bind fun t =>
  if t then (fc q.2).bind fun r => (g2 q.1 r.1).bind fun z2 => (asB z2).bind fun t2 => if t2 then (fd r.2).bind fun u => (g3 r.1 u.1).bind fun d => .ok (d, u.2) else .ok (.bl false, r.2) else .ok (.bl false, q.2)
def tChain3 (r r' r'' : R2) (ta tb tc td : TE) : TE := fun σ H Q => ta σ H fun x H1 => tb σ H1 fun y H2 => r x y H2 fun z H3 => ∃ k, z = .bl k ∧
  (if k = true then tc σ H3 fun w' H4 => r' y w' H4 fun z2 H5 => ∃ k2, z2 = .bl k2 ∧ (if k2 = true then td σ H5 fun u H6 => r'' w' u H6 Q else Q (.bl false) H5) else Q (.bl false) H3)
section
variable {M : Fr} {W : WX} {X : Cx} {k : Nat} {a b c e : Expr} {fa fb fc fe : Ev → Res (D × Ev)} {pos : Pos} {op op' op'' : CmpOp} {g1 g2 g3 : D → D → Res D}
theorem tr_ch2 {r r' : R2} {ta tb tc : TE} (o1 : OpT M W r g1) (o2 : OpT M W r' g2) (ha : Tr M W (Rp M.F) ta fa) (hb : Tr M W (Rp M.F) tb fb) (hc : Tr M W (Rp M.F) tc fc) : Tr M W (Rp M.F) (tChain r r' ta tb tc) (eCh2 g1 g2 fa fb fc) := by
  refine Tr.bind (f2 := fun x ε => (fb ε).bind fun q => (g1 x q.1).bind fun z => (asB z).bind fun t => if t then (fc q.2).bind fun r => (g2 q.1 r.1).bind fun d => .ok (d, r.2) else .ok (.bl false, q.2))
    (t2 := fun v σ H1 Q => tb σ H1 fun y H2 => r v y H2 fun z H3 => ∃ k, z = .bl k ∧ (if k = true then tc σ H3 fun w' H4 => r' y w' H4 Q else Q (.bl false) H3)) ha ?_
  intro x v σ G H ε s rx Q hp
  refine hb σ G H ε s _ ?_
  cases e1 : fb ε with
  | stuck => rw [e1] at hp; exact hp
  | err c => rw [e1] at hp; exact hp
  | ok q =>
    rw [e1] at hp
    intro w G1 H1 s1 st1 ry
    have hp1 : Post M W σ G1 H1 q.2 (Rp M.F) ((g1 x q.1).bind fun z => (asB z).bind fun t => if t then (fc q.2).bind fun r => (g2 q.1 r.1).bind fun d => .ok (d, r.2) else .ok (.bl false, q.2)) Q := Post.shift s1 st1 hp
    refine o1 x q.1 v w σ G1 H1 q.2 s1 (rx.mono st1.gg) ry _ ?_
    cases e2 : g1 x q.1 with
    | stuck => rw [e2] at hp1; exact hp1
    | err c => rw [e2] at hp1; exact hp1
    | ok z =>
      rw [e2] at hp1
      intro zv G2 H2 s2 st2 rz
      have hp2 : Post M W σ G2 H2 q.2 (Rp M.F) ((asB z).bind fun t => if t then (fc q.2).bind fun r => (g2 q.1 r.1).bind fun d => .ok (d, r.2) else .ok (.bl false, q.2)) Q := Post.shift s2 st2 hp1
      cases z with
      | bl t =>
        rw [rp_bl] at rz
        refine ⟨t, rz, ?_⟩
        cases t with
        | false => exact hp2 _ G2 H2 s2 (Step.refl ..) (rp_bl.mpr rfl)
        | true =>
          have hp3 : Post M W σ G2 H2 q.2 (Rp M.F) ((fc q.2).bind fun r => (g2 q.1 r.1).bind fun d => .ok (d, r.2)) Q := hp2
          refine hc σ G2 H2 q.2 s2 _ ?_
          cases e3 : fc q.2 with
          | stuck => rw [e3] at hp3; exact hp3
          | err c => rw [e3] at hp3; exact hp3
          | ok r =>
            rw [e3] at hp3
            intro u G3 H3 s3 st3 ru
            exact o2 q.1 r.1 w u σ G3 H3 r.2 s3 ((ry.mono st2.gg).mono st3.gg) ru Q (Post.shift s3 st3 hp3)
      | _ => exact hp2.elim
theorem pv_ch2 (h1 : CmpR M W X op g1) (h2 : CmpR M W X op' g2) (ha : PV M W X a fa) (hb : PV M W X b fb) (hc : PV M W X c fc) (hm : lastMarks [op, op'] [b, c] = false := by with_unfolding_all rfl) : PV M W X (.Compare a [op, op'] [b, c] pos) (eCh2 g1 g2 fa fb fc) := by
  obtain ⟨r, p1, q1⟩ := h1.ex
  obtain ⟨r', p2, q2⟩ := h2.ex
  obtain ⟨ta, ea, qa⟩ := ha
  obtain ⟨tb, eb, qb⟩ := hb
  obtain ⟨tc, ec, qc⟩ := hc
  exact ⟨_, pe_chain p1 p2 ea eb ec hm, tr_ch2 q1 q2 qa qb qc⟩
theorem pb_ch2 (h1 : CmpR M W X op g1) (h2 : CmpR M W X op' g2) (ha : PV M W X a fa) (hb : PV M W X b fb) (hc : PV M W X c fc) (hm : lastMarks [op, op'] [b, c] = false := by with_unfolding_all rfl) : PB M W X (.Compare a [op, op'] [b, c] pos) (bOf (eCh2 g1 g2 fa fb fc)) := by
  obtain ⟨r, p1, q1⟩ := h1.ex
  obtain ⟨r', p2, q2⟩ := h2.ex
  obtain ⟨ta, ea, qa⟩ := ha
  obtain ⟨tb, eb, qb⟩ := hb
  obtain ⟨tc, ec, qc⟩ := hc
  exact ⟨_, pt_chain p1 p2 ea eb ec hm, tr_test (tr_ch2 q1 q2 qa qb qc)⟩
theorem pe_chain3 {r r' r'' : R2} {ta tb tc td : TE} (ho : OpR X (compareOp op) r) (ho' : OpR X (compareOp op') r') (ho'' : OpR X (compareOp op'') r'') (ha : PE X a ta) (hb : PE X b tb) (hc : PE X c tc) (hd : PE X e td)
    (hm : lastMarks [op, op', op''] [b, c, e] = false := by with_unfolding_all rfl) : PE X (.Compare a [op, op', op''] [b, c, e] pos) (tChain3 r r' r'' ta tb tc td) := by
  refine ⟨fun pins s σ H Q I h => ?_⟩
  refine Compare_chain (thn (ha.run pins s σ H _ I h) fun v s1 ⟨x, H1, I1, r1, q1⟩ => chain_link (thn (hb.run pins s1 σ H1 _ I1 q1) fun u s2 ⟨y, H2, I2, r2, q2⟩ => thn (ho pins s2 σ H2 x y v u _ I2 r1 r2 q2) fun d s3 ⟨z, H3, I3, r3, k, e, q3⟩ => ?_)) hm
  subst e
  cases r3
  refine wpAny_truthy_bool ?_
  cases k with
  | false => exact ite_ff ⟨.bl false, H3, I3, rfl, q3⟩
  | true =>
    refine ite_tt (chain_link (thn (hc.run pins s3 σ H3 _ I3 q3) fun w' s4 ⟨z', H4, I4, r4, q4⟩ => thn (ho' pins s4 σ H4 y z' u w' _ I4 r2 r4 q4) fun d' s5 ⟨z2, H5, I5, r5, k2, e2, q5⟩ => ?_))
    subst e2
    cases r5
    refine wpAny_truthy_bool ?_
    cases k2 with
    | false => exact ite_ff ⟨.bl false, H5, I5, rfl, q5⟩
    | true => exact ite_tt (chain_last (thn (hd.run pins s5 σ H5 _ I5 q5) fun w2 s6 ⟨z3, H6, I6, r6, q6⟩ => ho'' pins s6 σ H6 z' z3 w' w2 Q I6 r4 r6 q6))
theorem tr_ch3 {r r' r'' : R2} {ta tb tc td : TE} (o1 : OpT M W r g1) (o2 : OpT M W r' g2) (o3 : OpT M W r'' g3) (ha : Tr M W (Rp M.F) ta fa) (hb : Tr M W (Rp M.F) tb fb) (hc : Tr M W (Rp M.F) tc fc) (hd : Tr M W (Rp M.F) td fe) :
    Tr M W (Rp M.F) (tChain3 r r' r'' ta tb tc td) (eCh3 g1 g2 g3 fa fb fc fe) := by
  refine Tr.bind (f2 := fun x ε => (fb ε).bind fun q => (g1 x q.1).bind fun z => (asB z).bind fun t => if t then (fc q.2).bind fun r => (g2 q.1 r.1).bind fun z2 => (asB z2).bind fun t2 => if t2 then (fe r.2).bind fun u => (g3 r.1 u.1).bind fun d => .ok (d, u.2) else .ok (.bl false, r.2) else .ok (.bl false, q.2))
    (t2 := fun v σ H1 Q => tb σ H1 fun y H2 => r v y H2 fun z H3 => ∃ k, z = .bl k ∧ (if k = true then tc σ H3 fun w' H4 => r' y w' H4 fun z2 H5 => ∃ k2, z2 = .bl k2 ∧ (if k2 = true then td σ H5 fun u H6 => r'' w' u H6 Q else Q (.bl false) H5) else Q (.bl false) H3)) ha ?_
  intro x v σ G H ε s rx Q hp
  refine hb σ G H ε s _ ?_
  cases e1 : fb ε with
  | stuck => rw [e1] at hp; exact hp
  | err c => rw [e1] at hp; exact hp
  | ok q =>
    rw [e1] at hp
    intro w G1 H1 s1 st1 ry
    have hp1 : Post M W σ G1 H1 q.2 (Rp M.F) ((g1 x q.1).bind fun z => (asB z).bind fun t => if t then (fc q.2).bind fun r => (g2 q.1 r.1).bind fun z2 => (asB z2).bind fun t2 => if t2 then (fe r.2).bind fun u => (g3 r.1 u.1).bind fun d => .ok (d, u.2) else .ok (.bl false, r.2) else .ok (.bl false, q.2)) Q := Post.shift s1 st1 hp
    refine o1 x q.1 v w σ G1 H1 q.2 s1 (rx.mono st1.gg) ry _ ?_
    cases e2 : g1 x q.1 with
    | stuck => rw [e2] at hp1; exact hp1
    | err c => rw [e2] at hp1; exact hp1
    | ok z =>
      rw [e2] at hp1
      intro zv G2 H2 s2 st2 rz
      have hp2 : Post M W σ G2 H2 q.2 (Rp M.F) ((asB z).bind fun t => if t then (fc q.2).bind fun r => (g2 q.1 r.1).bind fun z2 => (asB z2).bind fun t2 => if t2 then (fe r.2).bind fun u => (g3 r.1 u.1).bind fun d => .ok (d, u.2) else .ok (.bl false, r.2) else .ok (.bl false, q.2)) Q := Post.shift s2 st2 hp1
      cases z with
      | bl t =>
        rw [rp_bl] at rz
        refine ⟨t, rz, ?_⟩
        cases t with
        | false => exact hp2 _ G2 H2 s2 (Step.refl ..) (rp_bl.mpr rfl)
        | true =>
          have hp3 : Post M W σ G2 H2 q.2 (Rp M.F) ((fc q.2).bind fun r => (g2 q.1 r.1).bind fun z2 => (asB z2).bind fun t2 => if t2 then (fe r.2).bind fun u => (g3 r.1 u.1).bind fun d => .ok (d, u.2) else .ok (.bl false, r.2)) Q := hp2
          refine hc σ G2 H2 q.2 s2 _ ?_
          cases e3 : fc q.2 with
          | stuck => rw [e3] at hp3; exact hp3
          | err c => rw [e3] at hp3; exact hp3
          | ok r =>
            rw [e3] at hp3
            intro u G3 H3 s3 st3 ru
            have hp4 : Post M W σ G3 H3 r.2 (Rp M.F) ((g2 q.1 r.1).bind fun z2 => (asB z2).bind fun t2 => if t2 then (fe r.2).bind fun u => (g3 r.1 u.1).bind fun d => .ok (d, u.2) else .ok (.bl false, r.2)) Q := Post.shift s3 st3 hp3
            refine o2 q.1 r.1 w u σ G3 H3 r.2 s3 ((ry.mono st2.gg).mono st3.gg) ru _ ?_
            cases e4 : g2 q.1 r.1 with
            | stuck => rw [e4] at hp4; exact hp4
            | err c => rw [e4] at hp4; exact hp4
            | ok z2 =>
              rw [e4] at hp4
              intro zv2 G4 H4 s4 st4 rz2
              have hp5 : Post M W σ G4 H4 r.2 (Rp M.F) ((asB z2).bind fun t2 => if t2 then (fe r.2).bind fun u => (g3 r.1 u.1).bind fun d => .ok (d, u.2) else .ok (.bl false, r.2)) Q := Post.shift s4 st4 hp4
              cases z2 with
              | bl t2 =>
                rw [rp_bl] at rz2
                refine ⟨t2, rz2, ?_⟩
                cases t2 with
                | false => exact hp5 _ G4 H4 s4 (Step.refl ..) (rp_bl.mpr rfl)
                | true =>
                  have hp6 : Post M W σ G4 H4 r.2 (Rp M.F) ((fe r.2).bind fun u => (g3 r.1 u.1).bind fun d => .ok (d, u.2)) Q := hp5
                  refine hd σ G4 H4 r.2 s4 _ ?_
                  cases e5 : fe r.2 with
                  | stuck => rw [e5] at hp6; exact hp6
                  | err c => rw [e5] at hp6; exact hp6
                  | ok y =>
                    rw [e5] at hp6
                    intro yv G5 H5 s5 st5 ry5
                    exact o3 r.1 y.1 u yv σ G5 H5 y.2 s5 ((ru.mono st4.gg).mono st5.gg) ry5 Q (Post.shift s5 st5 hp6)
              | _ => exact hp5.elim
      | _ => exact hp2.elim
theorem pv_ch3 (h1 : CmpR M W X op g1) (h2 : CmpR M W X op' g2) (h3 : CmpR M W X op'' g3) (ha : PV M W X a fa) (hb : PV M W X b fb) (hc : PV M W X c fc) (hd : PV M W X e fe) (hm : lastMarks [op, op', op''] [b, c, e] = false := by with_unfolding_all rfl) :
    PV M W X (.Compare a [op, op', op''] [b, c, e] pos) (eCh3 g1 g2 g3 fa fb fc fe) := by
  obtain ⟨r, p1, q1⟩ := h1.ex
  obtain ⟨r', p2, q2⟩ := h2.ex
  obtain ⟨r'', p3, q3⟩ := h3.ex
  obtain ⟨ta, ea, qa⟩ := ha
  obtain ⟨tb, eb, qb⟩ := hb
  obtain ⟨tc, ec, qc⟩ := hc
  obtain ⟨td, ed, qd⟩ := hd
  exact ⟨_, pe_chain3 p1 p2 p3 ea eb ec ed hm, tr_ch3 q1 q2 q3 qa qb qc qd⟩
end
end PL
/-! PL, part l: enumerate over a tuple. -/
namespace PL
open PySem PySem.Spec PyProof.Rows L2
open Sem (wp)

theorem meets_enum1 {v : Value} {o : Obj} {H : Heap → Prop} (B : Begins v o H) :
    Meets (Builtin.«enumerate.__new__» ⟨[.type "enumerate", v], []⟩) (fun _ R s => H s.heap ∧
      R (.ok (.ret (.ref (s.heap.push o).objs.size))) { s with heap := (s.heap.push o).push { cls := .type "enumerate", data := .fields #[.none, .bool false, .ref s.heap.objs.size, rawInt 0, .none, .none] } }) :=
  .of_wp fun prog w A R s h => by
    obtain ⟨hp, g, d, tk, os⟩ := s; obtain ⟨h1, h⟩ := h
    have hsb := sub_enumerate
    have q1 : ∀ {A' : Around} {E Q : Value → Shared → Prop}, Q (.ref hp.objs.size) ⟨hp.push o, g, d, tk, os⟩ → wpAny (model prog w) A' (pyIter v) Q E ⟨hp, g, d, tk, os⟩ := fun q => B.iter prog w _ _ ⟨hp, g, d, tk, os⟩ _ h1 q
    wp_walk using q1
    refine wpAny_stack_any fun st => wpAny_pure ?_
    split
    · rename_i c _ _ _ _ _
      cases (c == Value.type "enumerate") <;> (wp_walk using q1; exact ⟨_, rfl, h⟩)
    · wp_walk using q1
      exact ⟨_, rfl, h⟩
theorem call_enum1 {prog : Program} {w : World} {A : Around} {E : Value → Shared → Prop} {s : Shared} {v : Value} {o : Obj} {H : Heap → Prop} {Q : Value → Shared → Prop} (B : Begins v o H) (h1 : H s.heap)
    (h : ∀ h', IsEnum h' (s.heap.objs.size + 1) s.heap.objs.size 0 .none → h'.get? s.heap.objs.size = some o → (∀ b o, s.heap.get? b = some o → h'.get? b = some o) → Q (.ref (s.heap.objs.size + 1)) { s with heap := h' }) :
    wpAny (model prog w) A (call (.type "enumerate") [v]) Q E s := by
  refine callType_new F.called_enumerate (by decide) (F.typeCall_enumerate_1 _) (F.newCall_enumerate_1 _) (fun obj => F.args_object_init_2 obj _) F.entry_enumerate_new (meets_enum1 B) ⟨h1, ?_⟩
  have hz : (s.heap.push o).objs.size = s.heap.objs.size + 1 := Heap.size_push ..
  show _ ∧ _
  rw [hz]
  have he : IsEnum ((s.heap.push o).push { cls := .type "enumerate", data := .fields #[.none, .bool false, .ref s.heap.objs.size, rawInt 0, .none, .none] }) (s.heap.objs.size + 1) s.heap.objs.size 0 .none := by
    have e1 := Heap.get?_push_size (s.heap.push o) (o := { cls := .type "enumerate", data := .fields #[.none, .bool false, .ref s.heap.objs.size, rawInt 0, .none, .none] }) rfl
    rw [hz] at e1; exact e1
  exact ⟨⟨_, he, rfl⟩, h _ he (Heap.get?_push_of_some _ (Heap.get?_push_size _ B.free)) fun b o x => Heap.get?_push_of_some _ (Heap.get?_push_of_some _ x)⟩

/-- the tuple at a, each item in a new pair, counted from c -/
def IteT (K : PySem.W.Frag) (c : Int) (a : Addr) : It :=
  ⟨fun i H => ∃ (xs : List V) (x : V), SqT K H a xs ∧ xs[i]? = some x, fun i H v H' => ∃ T x, v = .ref T ∧ H T = none ∧ H' = upd H T (.tup [.int (c + (i : Int)), x]) ∧ ∀ xs, SqT K H a xs → xs[i]? = some x, fun i H => ∃ xs : List V, SqT K H a xs ∧ xs.length ≤ i⟩
theorem turn_enumT {P : Program} {w : World} {K : PySem.W.Frag} {elts : List Expr} {kk : Nat} {tpos : Pos} (c : Int) (a e it : Addr) :
    Turn P w K (.Tuple elts kk tpos) (IteT K c a) [e, it] e (fun i h => (∃ old, IsEnum h e it (c + (i : Int)) old) ∧ h.IsTupleIter it a i ∧ e ≠ it) where
  mem := by simp
  obj := fun i h st b hb => by
    obtain ⟨⟨old, he⟩, ⟨o, ho, hc, hd⟩, _⟩ := st
    rcases (by simpa using hb : b = e ∨ b = it) with z | z
    · rw [z]; exact ⟨_, he, fun v q => nomatch q⟩
    · rw [z]; exact ⟨o, ho, fun v q => by rw [hd] at q; cases q⟩
  keep := fun i h h' st k => let ⟨⟨old, he⟩, hi, hne⟩ := st; ⟨⟨old, k e (by simp) _ he⟩, hi.at fun o q => k it (by simp) o q, hne⟩
  item := by
    intro X hP hw hK hc i pins s σ H E I hf st hg
    subst hP hw hK
    obtain ⟨⟨old, he⟩, hit, hne⟩ := st
    obtain ⟨xs, x, hq, hx⟩ := hg
    obtain ⟨its, rv, p, hz⟩ := I.tuple hq
    obtain ⟨u, hu, ru⟩ := rv.get hx
    have p0 : s.heap.IsTuple a its.toArray := p
    have hel : e < s.heap.objs.size := Heap.lt_size he
    have hil : it < s.heap.objs.size := by obtain ⟨_, q, _⟩ := hit; exact Heap.lt_size q
    have nea : e ≠ a := fun z => by
      obtain ⟨o, ho, hcl, _⟩ := p0
      rw [← z, he] at ho
      cases ho
      simp at hcl
    have nia : a ≠ it := fun z => by
      obtain ⟨o, ho, hcl, _⟩ := p0
      obtain ⟨o2, ho2, hcl2, _⟩ := hit
      rw [z, ho2] at ho
      cases ho
      rw [hcl2] at hcl
      simp at hcl
    have hi : i < its.toArray.size := by
      have e1 := (List.getElem?_eq_some_iff.mp hu).1
      simpa using e1
    refine wpAny_pyNext_enum_itemC (A := X.A) (Draws.tuple (show X.A.in1.handled = none from I.ok.hd hc) it a nia its.toArray) he ⟨hit, p0⟩ hi hne (by simp [hne, nea]) fun x0 h' tk hP ho hst hT hsz hk => ?_
    have ex : x0 = u := by
      have e1 : its[i]? = some x0 := by simpa using hP
      rw [hu] at e1
      exact (Option.some.inj e1).symm
    subst ex
    refine ⟨_, rfl, wpAny_letOwnedTupleGo_enum (s := { s with heap := h', toks := tk + 1 }) ho fun h'' he' sb => ?_⟩
    have hT2 : h''.get? s.heap.objs.size = some { cls := .type "tuple", data := .seq #[.int (c + (i : Int)) tk, x0] } := (sb.2 _ (Nat.ne_of_gt hel)).trans hT
    have new : ObjOk X.prog X.w (upd H s.heap.objs.size (.tup [.int (c + (i : Int)), x])) h'' s.heap.objs.size (.tup [.int (c + (i : Int)), x]) :=
      ⟨by show 2 ≤ sizeLine; decide, [.int (c + (i : Int)) tk, x0], .cons ⟨_, rfl⟩ (.cons ru .nil), ⟨_, hT2, rfl, _, rfl⟩⟩
    have I1 : Inv X pins σ (upd H s.heap.objs.size (.tup [.int (c + (i : Int)), x])) { s with heap := h'', toks := tk + 1 } :=
      I.turnedNew (ch := [e, it]) (fun b ob hb q => (sb.2 b (fun z => hb (by simp [z]))).trans (hk b ob (fun z => hb (by simp [z])) (fun z => hb (by simp [z])) q)) hf (Nat.le_refl _) new
    refine ⟨.ref s.heap.objs.size, _, I1, rfl, ⟨_, x, rfl, I.hok.fresh (Nat.le_refl _), rfl, fun ys hy => by rw [I.tuple_inj hy hq]; exact hx⟩, ⟨⟨x0, ?_⟩, hst.1.at fun o q => (sb.2 it (Ne.symm hne)).trans q, hne⟩, fun b hb => ?_⟩
    · have e1 : c + ((i + 1 : Nat) : Int) = c + (i : Int) + 1 := by omega
      rw [e1]; exact he'
    · have hb' : b < s.heap.objs.size := by
        rcases (by simpa using hb : b = e ∨ b = it) with z | z
        · rw [z]; exact hel
        · rw [z]; exact hil
      rw [upd_ne (Nat.ne_of_lt hb')]
      exact (hf b hb).1
  done := by
    intro X hP hw hK hc i pins s σ H E I hf st hg
    subst hP hw hK
    obtain ⟨⟨old, he⟩, hit, hne⟩ := st
    obtain ⟨xs, hq, hx⟩ := hg
    obtain ⟨its, rv, p, hz⟩ := I.tuple hq
    obtain ⟨f0, f1, f2, f3, f4, f5⟩ := hf it (by simp)
    have hl := rv.length
    have p0 : s.heap.IsTuple a its.toArray := p
    have hT : s.TypeIs (.ref e) "enumerate" := ⟨_, he, rfl⟩
    unfold pyNext
    refine wpAny_bind (wpAny_attempt (wpAny_callSpecial?_slot (name := Str.ofString "__next__") hT F.slot_enumerate_next (wpAny_call_entry F.slot_enumerate_next hT F.entry_enumerate_next ?_ (F.args_enumerate_next_1 _))))
    show wpAny _ _ (field (.ref e) 2 >>= _) _ _ _
    refine wpAny_bind (wpAny_field he rfl (x := .ref it) rfl ?_)
    refine wpAny_bind (wpAny_nextOf_tuple_end (show X.A.in1.handled = none from I.ok.hd hc) hit p0 (by simp; omega) fun h' x eb hx' => ?_)
    obtain ⟨o, ho, hcl⟩ := hx'
    refine wpAny_bind (wpAny_isInstance (T := "StopIteration") (b := true) ⟨o, ho, hcl⟩ isSubtype_stop ?_)
    exact wpAny_pure ⟨rfl, I.turned (t' := s.toks) (fun b o hb q => eb b o hb q) f0 f1 f3 f4 f5⟩
  self := fun A i s Q E st h => let ⟨⟨_, he⟩, _⟩ := st; wpAny_pyIter_enum he h
def iEnumT (K : PySem.W.Frag) (ta : TA) : TI := fun σ H R => ta σ H fun vs H1 => ∃ a xs, vs = [.ref a] ∧ SqT K H1 a xs ∧ R (IteT K 0 a) H1
theorem pi_enumT {X : Cx} {e : Expr} {ta : TA} {p pos tpos : Pos} {elts : List Expr} {kk : Nat} (hg : Gl X "enumerate") (hm : X.mg "enumerate" = none) (ha : PA X [e] ta) (hs : starEach [e] X.env = [(false, eval e X.env)] := by rfl) :
    PI X (.Tuple elts kk tpos) (.Call (.Name "enumerate" p) [e] [] pos) (iEnumT X.K ta) := by
  refine ⟨fun pins s σ H R I h => ?_⟩
  refine Call_ (ld_blt I hg hm boot_enumerate (PyProof.Rows.callWith_type1 (thn (ha.run pos pins s σ H _ I h) fun us s1 ⟨vs, H1, I1, r1, q1⟩ => ?_) hs rfl))
  obtain ⟨a, xs, ex, hq, q⟩ := q1
  subst ex
  cases r1 with
  | cons r rr =>
    cases rr
    cases r
    obtain ⟨its, rv, p', hz⟩ := I1.tuple hq
    refine call_enum1 (begins_tuple a its.toArray) p' fun h' he hit hk => wpAny_pyIter_enum he ?_
    have I2 : Inv X pins σ H1 { s1 with heap := h' } := I1.kept (t' := s1.toks) hk
    refine ⟨s1.heap.objs.size + 1, [s1.heap.objs.size + 1, s1.heap.objs.size], _, _, H1, rfl, I2, turn_enumT 0 a (s1.heap.objs.size + 1) s1.heap.objs.size, ⟨⟨.none, by simpa using he⟩, ⟨_, hit, rfl, rfl⟩, Nat.succ_ne_self _⟩, fun b hb => ?_, q⟩
    have hle : s1.heap.objs.size ≤ b := by
      rcases (by simpa using hb : b = s1.heap.objs.size + 1 ∨ b = s1.heap.objs.size) with z | z
      · rw [z]; exact Nat.le_add_right _ _
      · rw [z]; exact Nat.le_refl _
    exact I1.fpOk hle (I1.hok.fresh hle)

section
variable {M : Fr} {W : WX} {X : Cx} {k : Nat} {e : Expr} {pos : Pos}
@[simp] def fEnum : List D → Res (List D)
  | [.lst ds] => .ok (enumD 0 ds)
  | [.tup ds] => .ok (enumD 0 ds)
  | _ => .stuck
theorem pit_enum (c : CO M W k X) {p tpos : Pos} {elts : List Expr} {kk : Nat} {fs} (hm : X.mg "enumerate" = none) (ha : PA' M W X [e] fs) (hg : Gl X "enumerate" := by rfl) (hs : starEach [e] X.env = [(false, eval e X.env)] := by rfl) :
    PIt M W X (.Tuple elts kk tpos) (.Call (.Name "enumerate" p) [e] [] pos) (iCall fEnum fs) := by
  obtain ⟨⟨t, et, qt⟩, hl⟩ := ha
  refine ⟨_, pi_or (pi_enum hg hm et hs) (pi_enumT hg hm et hs), fun σ G H ε s Q hp => ?_⟩
  simp only [iCall] at hp
  cases e1 : fs ε with
  | stuck => rw [e1] at hp; exact hp.elim
  | err cc =>
    rw [e1] at hp
    refine .inl (qt σ G H ε s _ ?_)
    rw [e1]; exact hp
  | ok p =>
    rw [e1] at hp
    simp only [Res.bind_ok] at hp
    unfold fEnum at hp
    split at hp
    · rename_i ds ej
      refine .inl (qt σ G H ε s _ ?_)
      rw [e1]
      intro vs G1 H1 s1 st1 rs
      rw [ej] at rs
      obtain ⟨v, rfl, r⟩ := rpL1 rs
      obtain ⟨a, ws, rfl, ha, l⟩ := rp_lst.mp r
      refine ⟨a, ws, rfl, SqL.of (s1.sub _ _ ha), hp _ G1 H1 s1 st1 ?_⟩
      intro i G2 H2 s2 g2
      have hs : SqL X.K H2 a ws := SqL.of (s2.sub _ _ (g2 _ _ ha))
      refine ⟨fun d e => ?_, fun e => ⟨ws, hs, by rw [← l.length]; rw [enumD_len] at e; exact e⟩⟩
      obtain ⟨d0, e2, rfl⟩ := enumD_get ds 0 i d e
      obtain ⟨v, e3, r⟩ := l.get e2
      refine ⟨⟨ws, v, hs, e3⟩, fun x H' y => ?_⟩
      obtain ⟨T, x0, rfl, hT, rfl, y⟩ := y
      have ex := y ws hs
      rw [e3] at ex
      cases ex
      exact new_pair s2 hT (rp_int.mpr (by simp)) (r.mono g2)
    · rename_i ds ej
      refine .inr (qt σ G H ε s _ ?_)
      rw [e1]
      intro vs G1 H1 s1 st1 rs
      rw [ej] at rs
      obtain ⟨v, rfl, r⟩ := rpL1 rs
      obtain ⟨a, ws, rfl, ha, l⟩ := rp_tup.mp r
      rw [← c.hK] at ha
      refine ⟨a, ws, rfl, sqT_mono s1.sub ha, hp _ G1 H1 s1 st1 ?_⟩
      intro i G2 H2 s2 g2
      have hs : SqT X.K H2 a ws := sqT_mono s2.sub (sqT_mono g2 ha)
      refine ⟨fun d e => ?_, fun e => ⟨ws, hs, by rw [← l.length]; rw [enumD_len] at e; exact e⟩⟩
      obtain ⟨d0, e2, rfl⟩ := enumD_get ds 0 i d e
      obtain ⟨v, e3, r⟩ := l.get e2
      refine ⟨⟨ws, v, hs, e3⟩, fun x H' y => ?_⟩
      obtain ⟨T, x0, rfl, hT, rfl, y⟩ := y
      have ex := y ws hs
      rw [e3] at ex
      cases ex
      exact new_pair s2 hT (rp_int.mpr (by simp)) (r.mono g2)
    · exact hp.elim
end
end PL
/-! PL, part m: an owned list read as a value (it stays what it is from then on); a law's own def; what the top has. -/
namespace PL
open PySem PySem.Spec PyProof.Rows L2

@[reducible, simp] def eZ (i : Nat) : Ev → Res (D × Ev) := fun ε => match ε[i]? with
  | some (.pu d) => .ok (d, ε)
  | some (.ow ds) => .ok (.lst ds, ε.set i (.pu (.lst ds)))
  | _ => .stuck
theorem SR.frz {M : Fr} {G H : Hp} {σ : St} {ε : Ev} (s : SR M G H σ ε) {i : Nat} {ds : List D} {p : Addr} {vs : List V} (e : ε[i]? = some (.ow ds)) (eσ : σ[i]? = some (some (.ref p))) (gp : G p = none) (hp : H p = some (.lst vs)) (l : RpL M.F G ds vs) (hc : M.cp = none ∨ i ≠ 0) :
    SR M (upd G p (.lst vs)) H σ (ε.set i (.pu (.lst ds))) ∧ Step G H (Own σ ε) (upd G p (.lst vs)) H (Own σ (ε.set i (.pu (.lst ds)))) := by
  have hi : i < ε.length := (List.getElem?_eq_some_iff.mp e).1
  have mono : ∀ q o, G q = some o → upd G p (.lst vs) q = some o := fun q o h => by rw [upd_ne (ne_of_none h gp)]; exact h
  have old : ∀ j, j ≠ i → (ε.set i (Slot.pu (.lst ds)))[j]? = ε[j]? := fun j hj => List.getElem?_set_ne (Ne.symm hj)
  have ow : ∀ (j : Nat) (es : List D), (ε.set i (Slot.pu (.lst ds)))[j]? = some (.ow es) → j ≠ i ∧ ε[j]? = some (.ow es) := fun j es e1 => by
    by_cases hj : j = i
    · subst hj
      rw [List.getElem?_set_self hi] at e1
      cases e1
    · rw [old j hj] at e1
      exact ⟨hj, e1⟩
  refine ⟨⟨fun q o h => ?_, fun q ps h => ?_, s.tabs, by rw [List.length_set]; exact s.len, fun j x o e1 e2 => ?_, fun j l d1 d2 q e1 e2 e3 e4 => s.inj j l d1 d2 q (ow j d1 e1).2 (ow l d2 e2).2 e3 e4, fun q hq => ?_⟩, ⟨mono, fun q o h _ _ => h, fun q h => h, fun q o h => ?_, fun q ⟨j, es, e1, e2⟩ => .inl ⟨j, es, (ow j es e1).2, e2⟩⟩⟩
  · unfold upd at h
    split at h
    · rename_i z; subst z; rw [hp]; exact h
    · exact s.sub q o h
  · unfold upd at h
    split at h
    · cases h
    · exact s.ntb q ps h
  · by_cases hj : j = i
    · subst hj
      rw [List.getElem?_set_self hi] at e1
      rw [eσ] at e2
      cases e1
      cases e2
      exact ⟨.ref p, rfl, rp_lst.mpr ⟨p, vs, rfl, upd_same, l.mono mono⟩⟩
    · rw [old j hj] at e1
      have h := s.slots j x o e1 e2
      cases x with
      | em => trivial
      | pu d =>
        obtain ⟨v, ev, r⟩ := h
        exact ⟨v, ev, r.mono mono⟩
      | ow es =>
        obtain ⟨q, ws, eq, n, hq, r⟩ := h
        refine ⟨q, ws, eq, ?_, hq, r.mono mono⟩
        rw [upd_ne (fun z => hj (s.inj j i es ds p e1 e (by rw [e2, eq, z]) eσ))]
        exact n
  · obtain ⟨a, d, b⟩ := s.cup q hq
    have h0 : (0 : Nat) ≠ i := fun z => by
      rcases hc with y | y
      · rw [y] at hq; cases hq
      · exact y z.symm
    exact ⟨a, d, by rw [old 0 h0]; exact b⟩
  · unfold upd at h
    split at h
    · rename_i z; subst z; exact .inr (.inr ⟨i, ds, e, eσ⟩)
    · exact .inl h
section
variable {M : Fr} {W : WX} {X : Cx} {k : Nat} {pos : Pos}
theorem tr_frz (i : Nat) (hc : M.cp = none ∨ i ≠ 0) : Tr M W (Rp M.F) (tVar i) (eZ i) := by
  intro σ G H ε s Q hp
  simp only [eZ] at hp
  cases e : ε[i]? with
  | none => rw [e] at hp; exact hp.elim
  | some x =>
    rw [e] at hp
    cases x with
    | em => exact hp.elim
    | pu d =>
      obtain ⟨v, e2, r⟩ := s.pu e
      exact ⟨v, e2, hp v G H s (Step.refl ..) r⟩
    | ow ds =>
      obtain ⟨p, vs, ev, gp, hp', l⟩ := s.ow e
      obtain ⟨s2, st2⟩ := s.frz e ev gp hp' l hc
      have mono : ∀ q o, G q = some o → upd G p (.lst vs) q = some o := fun q o h => by rw [upd_ne (ne_of_none h gp)]; exact h
      exact ⟨.ref p, ev, hp (.ref p) _ H s2 st2 (rp_lst.mpr ⟨p, vs, rfl, upd_same, l.mono mono⟩)⟩
theorem pv_frz (i : Nat) {x : Str} (hc : M.cp = none ∨ i ≠ 0) (hN : X.N[i]? = some x := by rfl) (hv : Vis X.env.scope x := by first | exact Or.inl rfl | exact Or.inr (Or.inl rfl) | exact Or.inr (Or.inr rfl)) (hd : (x == ("__debug__" : Str)) = false := by decide)
    (hcd : (x == ("__classdict__" : Str)) = false := by decide) : PV M W X (.Name x pos) (eZ i) := ⟨_, pe_var hN hv hd hcd, tr_frz i hc⟩
/-- a constant of the module -/
def GlC (F : Fx) (mg : Str → Option Value) (x : Str) (d : D) : Prop := ∃ v u, mg x = some u ∧ RelV v u ∧ ∀ G, Rp F G d v
theorem pv_gl {x : Str} {d : D} (h : GlC M.F X.mg x d) (hg : Gl X x := by rfl) (hdb : (x == ("__debug__" : Str)) = false := by decide) : PV M W X (.Name x pos) (eC d) := by
  obtain ⟨v, u, hm, r, hd⟩ := h
  exact pv_glob hm r hd hg hdb
theorem glC_int {F : Fx} {mg : Str → Option Value} {x : Str} {i : Int} {t : Tok} (h : mg x = some (.int i t)) : GlC F mg x (.int i) := ⟨.int i, _, h, ⟨_, rfl⟩, fun _ => rp_int.mpr rfl⟩

/-- a def that the top has written, under this name -/
def FnC (K : PySem.W.Frag) (mg : Str → Option Value) (y x : Str) (st : Stmt) : Prop := ∃ f fd, Fun K x x st f fd ∧ mg y = some (.ref f)
end

theorem fnC_mk {K : PySem.W.Frag} {h : Heap} {mg : Str → Option Value} {y x : Str} {st : Stmt} {f : Addr} {oc : Value} {od an : Option Addr} {osl : Array (Option Value)} {kV doc pm cdv ct : Value} (X : K.In h) (G : h.Ns mainGlobals mg) (a : PySem.W.nsIn K mainGlobals y = some (some (.ref f)))
    (l : K.lookup f = some ⟨oc, od, .func (PySem.W.fnOf x x (defArgs st) (defBody st) (defScope st) .none kV doc pm an cdv ct), osl⟩) (c : PySem.W.codeIn K cdv x = true) (k : PySem.W.keepIn K (.ref f) = true) : FnC K mg y x st :=
  ⟨f, _, fun_mk l c k, PySem.W.mg_of X G a⟩
theorem errC_mk {K : PySem.W.Frag} {h : Heap} {mg : Str → Option Value} {x : Str} {C : Addr} (X : K.In h) (G : h.Ns mainGlobals mg) (a : PySem.W.nsIn K mainGlobals x = some (some (.ref C)))
    (ex : PySem.W.excIn K C [.type "ValueError", .type "Exception", .type "BaseException", .type "object"] "ValueError.__new__" = true) (kC : PySem.W.keepIn K (.ref C) = true) (bC : PySem.W.subIn K (.ref C) (.type "BaseException") = some true)
    (tC : PySem.W.typeIn K (.ref C) = some (.type "type")) : ∃ C, ErrC K mg x C := ⟨C, PySem.W.mg_of X G a, ex, kC, bC, tC⟩
theorem int_mk {F : Fx} {K : PySem.W.Frag} {h : Heap} {mg : Str → Option Value} {x : Str} {i : Int} {t : Tok} (X : K.In h) (G : h.Ns mainGlobals mg) (a : PySem.W.nsIn K mainGlobals x = some (some (.int i t))) : GlC F mg x (.int i) := glC_int (PySem.W.mg_of X G a)

/-! ### the law -/
def spL (K : PySem.W.Frag) : Sp := fun vs H Q _ => ∃ (a : Addr) (ns : List Int), vs = [.ref a] ∧ SqL K H a (ns.map V.int) ∧ ns.length ≤ 63 ∧ Only H ∧ ∀ H', Q (.bl true) H'
section
variable {P : Program} {w : World} {K : PySem.W.Frag} {mg : Str → Option Value} {base : Heap}
theorem fn_law {F : Fx} (hF : F.K = K) (hT : F.T = []) {x qual : Str} {st : Stmt} {f : Addr} {fd : FuncData} {N ps : List Str} {k : Nat} {body : Ev → Out} (Fu : Fun K x qual st f fd) (S : FnScope N ps (defScope st)) (hn : ps.length = 1) (hN : 1 ≤ N.length)
    (hb : ∀ (cdv : Value) (A : Around) (outer : List Env) (s : Shared) (H : Hp) (E : XK), CO ⟨F, none⟩ (WE0 E) k (cxOf (L2N.CX P w) P w K mg base N qual (defScope st) f cdv A outer s H E) → PSs' ⟨F, none⟩ (WE0 E) (cxOf (L2N.CX P w) P w K mg base N qual (defScope st) f cdv A outer s H E) (defBody st) body)
    (hg : ∀ ns : List Int, ns.length ≤ 63 → outRes (body (startE N.length [.scr ns])) = .ok (.bl true)) : FnOk P w K mg base (L2N.CX P w) (k + 1) f fd ps (spL K) := by
  refine Fu.okN S (fun vs H Q E ⟨a, ns, h, _⟩ => by rw [h, hn]; rfl) fun cdv A outer s H vs Q E hr h => ?_
  obtain ⟨a, ns, rfl, hS, hl, hO, q⟩ := h
  obtain ⟨t, et, qt⟩ := hb cdv A outer s H E (co_fn hF S hr)
  have h1 : ∀ q ps, H q ≠ some (.tbl ps) := fun q ps h => by
    rcases hO q with z | ⟨o, xs, z⟩
    · rw [z] at h; cases h
    · rw [z] at h; cases h
  have h2 : HG F H H := ⟨fun _ _ h => h, h1, by rw [hT]; exact fun t ht => by cases ht⟩
  have h3 : RpL F H [.scr ns] [.ref a] := RpL.cons (by simp only [Rp]; exact ⟨a, rfl, by rw [hF]; exact hS⟩) RpL.nil
  refine ⟨t, et, qt _ H H (startE N.length [.scr ns]) (sr_start h2 h3 (by simpa using hN)) _ ?_⟩
  have h4 := hg ns hl
  cases e : body (startE N.length [.scr ns]) with
  | nx ε' => rw [e] at h4; cases h4
  | rt d ε' =>
    rw [e] at h4
    simp only [outRes, Res.ok.injEq] at h4
    subst h4
    intro v σ' G' H' s' st' r
    rw [rp_bl] at r
    subst r
    exact q H'
  | err c => rw [e] at h4; cases h4
  | bk ε' => rw [e] at h4; cases h4
  | ct ε' => rw [e] at h4; cases h4
  | stuck => rw [e] at h4; cases h4
end
end PL
/-! PL, part n: a def that gives a new list. -/
namespace PL
open PySem PySem.Spec PyProof.Rows L2
/-- the promise of a def that gives a new list -/
def SpN (F : Fx) (n : Nat) (g : List D → Res (List D)) : Sp := fun vs H Q E => ∃ (ds : List D) (G : Hp), ds.length = n ∧ HG F G H ∧ RpL F G ds vs ∧ match g ds with
  | .ok es => ∀ a ws G' H', Grow G H G' H' → HG F G' H' → G' a = none → H' a = some (.lst ws) → RpL F G' es ws → H a = none → Q (.ref a) H'
  | _ => False
@[reducible] def eCallN (g : List D → Res (List D)) (fs : Ev → Res (List D × Ev)) : Ev → Res (List D × Ev) := fun ε => (fs ε).bind fun p => (g p.1).ne.bind fun d => .ok (d, p.2)
section
variable {M : Fr} {W : WX} {X : Cx} {k : Nat} {e : Expr} {es : List Expr} {pos : Pos}
theorem pn_call (c : CO M W k X) {x : Str} {k' n : Nat} {g : List D → Res (List D)} {p : Pos} {fs : Ev → Res (List D × Ev)} (d : DOk M.F X.prog X.w X.K X.mg X.base x k' n (SpN M.F n g)) (hk : k' ≤ k) (ha : PA' M W X (e :: es) fs) (hn : (e :: es).length = n := by rfl) (hg : Gl X x := by rfl) (hdb : (x == ("__debug__" : Str)) = false := by decide)
    (he : starEach (e :: es) X.env = (false, eval e X.env) :: starEach es X.env := by rfl) (hpl : (backTo pos (starEach es X.env)).any (·.1) = false := by rfl) :
    PN M W X (.Call (.Name x p) (e :: es) [] pos) (eCallN g fs) := by
  obtain ⟨f, fd, ps, F, gm, kp, b⟩ := d.ex
  obtain ⟨⟨t, et, qt⟩, hl⟩ := ha
  refine ⟨_, pe_callS F (c.hr.mono hk) hg gm kp b (fun σ => L2N.passAt c.tk σ) et hdb he hpl, fun σ G H ε s Q hp => ?_⟩
  refine qt σ G H ε s _ ?_
  simp only [eCallN] at hp
  cases e1 : fs ε with
  | stuck => rw [e1] at hp; exact hp
  | err c => rw [e1] at hp; exact hp
  | ok q =>
    rw [e1] at hp
    intro vs G1 H1 s1 st1 rs
    have hp1 : PostN M W σ G1 H1 q.2 ((g q.1).ne.bind fun d => .ok (d, q.2)) Q := PostN.shift s1 st1 hp
    refine ⟨q.1, G1, by rw [hl _ _ e1]; exact hn, s1.hg, rs, ?_⟩
    cases e2 : g q.1 with
    | stuck => rw [e2] at hp1; exact hp1
    | err cc =>
      rw [e2] at hp1
      exact hp1
    | ok d =>
      rw [e2] at hp1
      intro a ws G' H' gr hg' ga ha' r hn'
      have s2 := s1.grow gr hg'.sub hg'.ntb hg'.tabs
      exact hp1 a ws G' H' s2 (gr.step _) ga ha' r hn' fun z => by
        obtain ⟨_, us, y⟩ := s1.own z
        rw [hn'] at y; cases y
end
theorem newRet {f1 : Ev → Out} {f2 : Ev → Res (List D × Ev)} {ε : Ev} {es : List D} (h : (match f1 ε with
  | .nx ε1 => (f2 ε1).bind fun p => .ok p.1
  | _ => .stuck : Res (List D)) = .ok es) : ∃ ε1 ε2, f1 ε = .nx ε1 ∧ f2 ε1 = .ok (es, ε2) := by
  cases e : f1 ε with
  | nx ε1 =>
    rw [e] at h
    replace h : (f2 ε1).bind (fun p => .ok p.1) = .ok es := h
    cases e2 : f2 ε1 with
    | ok p =>
      rw [e2] at h
      cases h
      exact ⟨ε1, p.2, rfl, e2⟩
    | err c => rw [e2] at h; cases h
    | stuck => rw [e2] at h; cases h
  | _ => rw [e] at h; cases h
section
variable {P : Program} {w : World} {K : PySem.W.Frag} {mg : Str → Option Value} {base : Heap}
/-- name = e; return [..] -/
theorem fn_new {F : Fx} (hF : F.K = K) {x qual : Str} {st : Stmt} {f : Addr} {fd : FuncData} {N ps : List Str} {k n : Nat} {g : List D → Res (List D)} {st1 : Stmt} {e : Expr} {pos : Pos} {f1 : Ev → Out} {f2 : Ev → Res (List D × Ev)} (Fu : Fun K x qual st f fd) (S : FnScope N ps (defScope st)) (hn : ps.length = n) (hN : n ≤ N.length)
    (hst : defBody st = [st1, .Return (some e) pos])
    (hb : ∀ (cdv : Value) (A : Around) (outer : List Env) (s : Shared) (H : Hp) (E : XK), CO ⟨F, none⟩ (WE0 E) k (cxOf (L2N.CX P w) P w K mg base N qual (defScope st) f cdv A outer s H E) →
      PS' ⟨F, none⟩ (WE0 E) (cxOf (L2N.CX P w) P w K mg base N qual (defScope st) f cdv A outer s H E) st1 f1 ∧ PN ⟨F, none⟩ (WE0 E) (cxOf (L2N.CX P w) P w K mg base N qual (defScope st) f cdv A outer s H E) e f2)
    (hg : ∀ ds es, ds.length = n → g ds = .ok es → ∃ ε1 ε2, f1 (startE N.length ds) = .nx ε1 ∧ f2 ε1 = .ok (es, ε2)) : FnOk P w K mg base (L2N.CX P w) (k + 1) f fd ps (SpN F n g) := by
  refine Fu.okN S (fun vs H Q E ⟨ds, G, h1, h2, h3, _⟩ => by rw [← h3.length, h1, hn]) fun cdv A outer s H vs Q E hr h => ?_
  obtain ⟨ds, G, h1, h2, h3, h4⟩ := h
  obtain ⟨⟨t, et, qt⟩, ⟨u, eu, qu⟩⟩ := hb cdv A outer s H E (co_fn hF S hr)
  refine ⟨_, by rw [hst]; exact pss_cons et (pss_one (ps_ret eu)), ?_⟩
  refine qt _ G H (startE N.length ds) (sr_start h2 h3 (by omega)) _ ?_
  have grow : ∀ {G' H' : Hp} {O' : Addr → Prop}, Step G H (Own (L2.start N vs) (startE N.length ds)) G' H' O' → Grow G H G' H' := fun {G' H' O'} st =>
    ⟨st.gg, fun q o h nt => st.hh q o h nt (own_start (F := F)), st.hs, fun q o h => (st.gn q o h).elim .inl fun z => z.elim .inr fun z => (own_start (F := F) z).elim⟩
  cases e0 : g ds with
  | stuck => rw [e0] at h4; exact h4.elim
  | err c => rw [e0] at h4; exact h4.elim
  | ok es =>
    rw [e0] at h4
    obtain ⟨ε1, ε2, e1, e2⟩ := hg ds es h1 e0
    rw [e1]
    intro σ1 G1 H1 s1 st1
    refine qu σ1 G1 H1 ε1 s1 _ ?_
    rw [e2]
    intro a ws G2 H2 s2 st2 ga ha r nh no
    have stt := st1.trans s1.sub st2
    exact h4 a ws G2 H2 (grow stt) s2.hg ga ha r (st1.hs a nh)
end
end PL
/-! PL, part o: a, b, .. = e1, e2, .. by way of a real tuple, some of the values new lists. -/
namespace PL
open PySem PySem.Spec PyProof.Rows L2

def SlRel (F : Fx) (G H : Hp) (O : Addr → Prop) (H0 : Hp) : List Slot → List V → Prop
  | [], vs => vs = []
  | x :: xs, vs => ∃ v r, vs = v :: r ∧ NewOk F G H O x v ∧ (∀ ds q, x = .ow ds → v = .ref q → H0 q = none ∧ ∀ (j : Nat) es, xs[j]? = some (.ow es) → r[j]? = some (.ref q) → False) ∧ SlRel F G H O H0 xs r
theorem SlRel.length {F : Fx} {G H : Hp} {O : Addr → Prop} {H0 : Hp} : ∀ {xs : List Slot} {vs : List V}, SlRel F G H O H0 xs vs → xs.length = vs.length
  | [], vs, h => by simp only [SlRel] at h; rw [h]; rfl
  | x :: xs, vs, h => by
    simp only [SlRel] at h
    obtain ⟨v, r, rfl, _, _, l⟩ := h
    simp [l.length]
theorem SlRel.h0 {F : Fx} {G H : Hp} {O : Addr → Prop} {H0 H1 : Hp} (hs : ∀ q, H0 q = none → H1 q = none) : ∀ {xs : List Slot} {vs : List V}, SlRel F G H O H0 xs vs → SlRel F G H O H1 xs vs
  | [], vs, h => h
  | x :: xs, vs, h => by
    simp only [SlRel] at h ⊢
    obtain ⟨v, r, e, a, b, l⟩ := h
    exact ⟨v, r, e, a, fun ds q e1 e2 => ⟨hs _ (b ds q e1 e2).1, (b ds q e1 e2).2⟩, l.h0 hs⟩
theorem SlRel.fresh {F : Fx} {G H : Hp} {O : Addr → Prop} {H0 : Hp} : ∀ {xs : List Slot} {vs : List V} {j : Nat} {es : List D} {q : Addr}, SlRel F G H O H0 xs vs → xs[j]? = some (.ow es) → vs[j]? = some (.ref q) → H0 q = none
  | [], vs, j, es, q, h, e, _ => by simp at e
  | x :: xs, vs, 0, es, q, h, e, e2 => by
    simp only [SlRel] at h
    obtain ⟨v, r, rfl, a, b, l⟩ := h
    simp at e e2
    exact (b es q e e2).1
  | x :: xs, vs, j + 1, es, q, h, e, e2 => by
    simp only [SlRel] at h
    obtain ⟨v, r, rfl, a, b, l⟩ := h
    simp at e e2
    exact l.fresh e e2
def PSls (M : Fr) (W : WX) (X : Cx) (es : List Expr) (fs : Ev → Res (List Slot × Ev)) : Prop := ∃ t, PA X es t ∧ ∀ (σ : St) (G H : Hp) (ε : Ev), SR M G H σ ε → ∀ Q : List V → Hp → Prop,
  (match fs ε with
    | .ok p => ∀ vs G' H', SR M G' H' σ p.2 → Step G H (Own σ ε) G' H' (Own σ p.2) → SlRel M.F G' H' (Own σ p.2) H p.1 vs → Q vs H'
    | .err c => ErrOk M W G H (Own σ ε) c
    | .stuck => False) → t σ H Q
@[reducible, simp] def slsNil : Ev → Res (List Slot × Ev) := fun ε => .ok ([], ε)
@[reducible, simp] def slsCons (fa : Ev → Res (Slot × Ev)) (fs : Ev → Res (List Slot × Ev)) : Ev → Res (List Slot × Ev) := fun ε => (fa ε).bind fun p => (fs p.2).bind fun q => .ok (p.1 :: q.1, q.2)
section
variable {M : Fr} {W : WX} {X : Cx} {k : Nat} {a : Expr} {es : List Expr} {pos : Pos}
theorem psls_nil : PSls M W X [] slsNil := ⟨_, L2.pa_nil, fun σ G H ε s Q hp => hp [] G H s (Step.refl ..) (by simp only [SlRel])⟩
theorem psls_cons {fa : Ev → Res (Slot × Ev)} {fs : Ev → Res (List Slot × Ev)} (ha : PSl M W X a fa) (hs : PSls M W X es fs) (h1 : starEach (a :: es) X.env = (false, eval a X.env) :: starEach es X.env := by rfl) : PSls M W X (a :: es) (slsCons fa fs) := by
  obtain ⟨ta, ea, qa⟩ := ha
  obtain ⟨ts, et, qs⟩ := hs
  refine ⟨_, L2.pa_cons ea et h1, fun σ G H ε s Q hp => ?_⟩
  refine qa σ G H ε s _ ?_
  simp only [slsCons] at hp
  cases e1 : fa ε with
  | stuck => rw [e1] at hp; exact hp
  | err c => rw [e1] at hp; exact hp
  | ok p =>
    rw [e1] at hp
    simp only [Res.bind_ok] at hp
    intro v G1 H1 s1 st1 r1 n1
    refine qs σ G1 H1 p.2 s1 _ ?_
    cases e2 : fs p.2 with
    | stuck => rw [e2] at hp; exact hp
    | err c => rw [e2] at hp; exact ErrOk.shift s1.sub st1 hp
    | ok q =>
      rw [e2] at hp
      simp only [Res.bind_ok] at hp
      intro vs G2 H2 s2 st2 r2
      refine hp (v :: vs) G2 H2 s2 (st1.trans s1.sub st2) ?_
      simp only [SlRel]
      refine ⟨v, vs, rfl, r1.step s2 st2, fun ds z e3 e4 => ⟨n1 ds z e3 e4, fun j es' e5 e6 => ?_⟩, r2.h0 st1.hs⟩
      exact r1.there e3 e4 (r2.fresh e5 e6)

def setV (σ : St) : List Nat → List V → St
  | i :: is, v :: vs => setV (σ.set i (some v)) is vs
  | _, _ => σ
@[simp] def setS (ε : Ev) : List Nat → List Slot → Ev
  | i :: is, x :: xs => setS (ε.set i x) is xs
  | _, _ => ε
theorem SR.setAll {G H H0 : Hp} : ∀ {is : List Nat} {xs : List Slot} {vs : List V} {σ : St} {ε : Ev}, SR M G H σ ε → is.length = xs.length → (∀ i ∈ is, i < ε.length) → SlRel M.F G H (Own σ ε) H0 xs vs → (M.cp = none ∨ 0 ∉ is) →
    SR M G H (setV σ is vs) (setS ε is xs) ∧ ∀ q, Own (setV σ is vs) (setS ε is xs) q → Own σ ε q ∨ H0 q = none
  | [], xs, vs, σ, ε, s, hl, _, r, _ => by
    cases xs with
    | nil => exact ⟨s, fun q z => .inl z⟩
    | cons x xs => cases hl
  | i :: is, [], vs, σ, ε, s, hl, _, r, _ => by cases hl
  | i :: is, x :: xs, vs, σ, ε, s, hl, hi, r, hc => by
    simp only [SlRel] at r
    obtain ⟨v, vr, rfl, r1, n1, rr⟩ := r
    obtain ⟨s2, o2⟩ := s.setNew (hi i List.mem_cons_self) r1 (hc.imp id fun h z => h (by rw [z]; exact List.mem_cons_self))
    have keep : ∀ {xs' : List Slot} {vs' : List V}, (∀ ds q, x = .ow ds → v = .ref q → ∀ (j : Nat) es, xs'[j]? = some (.ow es) → vs'[j]? = some (.ref q) → False) → SlRel M.F G H (Own σ ε) H0 xs' vs' → SlRel M.F G H (Own (σ.set i (some v)) (ε.set i x)) H0 xs' vs' := by
      intro xs'
      induction xs' with
      | nil => intro vs' _ h; exact h
      | cons y ys ih =>
        intro vs' hd h
        simp only [SlRel] at h ⊢
        obtain ⟨u, ur, rfl, a, b, l⟩ := h
        refine ⟨u, ur, rfl, a.set o2 (fun ds es z h1 h2 h3 h4 => hd es z h3 h4 0 ds (by simp [h1]) (by simp [h2])), b, ih (fun ds q e1 e2 j es e3 e4 => hd ds q e1 e2 (j + 1) es (by simpa using e3) (by simpa using e4)) l⟩
    obtain ⟨s3, o3⟩ := SR.setAll (is := is) s2 (by simpa using hl) (fun j hj => by rw [List.length_set]; exact hi j (List.mem_cons_of_mem _ hj)) (keep (fun ds q e1 e2 => (n1 ds q e1 e2).2) rr) (hc.imp id fun h z => h (List.mem_cons_of_mem _ z))
    refine ⟨s3, fun q z => ?_⟩
    rcases o3 q z with y | y
    · rcases o2 q y with y | ⟨⟨ds, y⟩, y2⟩
      · exact .inl y
      · exact .inr (n1 ds q y y2).1
    · exact .inr y
/-- names alone as targets -/
def PNs (X : Cx) (tgs : List Expr) (is : List Nat) : Prop := tgs.length = is.length ∧ ∃ g, PGs X tgs g ∧ ∀ (vs : List V) (σ : St) (H : Hp) (Q : St → Hp → Prop), vs.length = is.length → Q (setV σ is vs) H → g vs σ H Q
theorem pns_nil : PNs X [] [] := ⟨rfl, _, pgs_nil, fun vs σ H Q h q => by
  cases vs with
  | nil => exact ⟨rfl, q⟩
  | cons v vs => cases h⟩
theorem pns_cons {i : Nat} {x : Str} {es : List Expr} {is : List Nat} (hN : X.N.Nodup) (h : PNs X es is) (hi : X.N[i]? = some x := by rfl) (hx : Loc X.env.scope x := by first | exact Or.inl rfl | exact Or.inr rfl) (hf : X.fn x = true ∨ X.env.scope.names.lookup x = some .local := by first | exact .inl rfl | exact .inr rfl | assumption)
    (hs : (assignEach (.Name x pos :: es) X.env).map (·.2) = assign (.Name x pos) X.env :: (assignEach es X.env).map (·.2) := by rfl) : PNs X (.Name x pos :: es) (i :: is) := by
  obtain ⟨hl, g, p, q⟩ := h
  refine ⟨by simp [hl], _, pgs_cons (pg_name hN hi hx hf) p hs, fun vs σ H Q h hq => ?_⟩
  cases vs with
  | nil => cases h
  | cons v vs => exact ⟨v, vs, rfl, q vs _ H Q (by simpa using h) hq⟩
@[reducible, simp] def sParT (is : List Nat) (fs : Ev → Res (List Slot × Ev)) : Ev → Out := fun ε => (fs ε).out fun p => if is.length = p.1.length ∧ is.all (fun i => decide (i < p.2.length)) = true then .nx (setS p.2 is p.1) else .stuck
theorem ps_parT' (c : CO M W k X) {tgs : List Expr} {is : List Nat} {kt k2 : Nat} {pt pt2 : Pos} {fs : Ev → Res (List Slot × Ev)} (hs : PSls M W X es fs) (hg : PNs X tgs is) (hc : M.cp = none ∨ 0 ∉ is) (hlen : is.length ≤ 1000 := by decide)
    (hsw : swapsWithSole [.Tuple tgs kt pt] (.Tuple es k2 pt2) pos.line X.env = pure false := by rfl) (hw : swappedStores [.Tuple tgs kt pt] (.Tuple es k2 pt2) X.env = pure none := by rfl)
    (h1 : (assignEach [.Tuple tgs kt pt] X.env).map (·.2) = [assign (.Tuple tgs kt pt) X.env] := by rfl) (hn : (assignEach tgs X.env).length = is.length := by rfl) (hst : (assignEach tgs X.env).findIdx? (·.1) = none := by rfl) :
    PS' M W X (.Assign [.Tuple tgs kt pt] (.Tuple es k2 pt2) pos) (sParT is fs) := by
  obtain ⟨t, et, qt⟩ := hs
  obtain ⟨hl, g, pg, qg⟩ := hg
  refine ⟨_, ps_asg (pe_tup et) (pg_tup c.calm pg hn hst) hsw hw h1, fun σ G H ε s E hp => ?_⟩
  refine qt σ G H ε s _ ?_
  simp only [sParT] at hp
  cases e1 : fs ε with
  | stuck => simp only [e1, Res.out] at hp; exact hp
  | err c => simp only [e1, Res.out] at hp; exact hp
  | ok p =>
    simp only [e1, Res.out] at hp
    intro vs G1 H1 s1 st1 r1
    split at hp
    · rename_i hh
      have hv : vs.length = is.length := by rw [← r1.length]; exact hh.1.symm
      refine ⟨by rw [hv]; exact Nat.le_of_lt (small1000 hlen), fun T hT => ?_⟩
      obtain ⟨s2, st2, gT, noT⟩ := s1.newH (o := .tup vs) hT
      refine ⟨T, vs, rfl, .inl (.inl upd_same), hv, qg vs σ _ _ hv ?_⟩
      have r2 : SlRel M.F G1 (upd H1 T (.tup vs)) (Own σ p.2) H p.1 vs := by
        have go : ∀ {xs : List Slot} {ws : List V}, SlRel M.F G1 H1 (Own σ p.2) H xs ws → SlRel M.F G1 (upd H1 T (.tup vs)) (Own σ p.2) H xs ws := by
          intro xs
          induction xs with
          | nil => intro ws h; exact h
          | cons y ys ih =>
            intro ws h
            simp only [SlRel] at h ⊢
            obtain ⟨u, ur, rfl, a, b, l⟩ := h
            exact ⟨u, ur, rfl, a.step s2 st2, b, ih l⟩
        exact go r1
      obtain ⟨s3, o3⟩ := s2.setAll hh.1 (fun i hi => of_decide_eq_true (List.all_eq_true.mp hh.2 i hi)) r2 hc
      have st := st1.trans s1.sub st2
      refine hp _ G1 _ s3 ⟨st.gg, st.hh, st.hs, st.gn, fun q z => ?_⟩
      rcases o3 q z with y | y
      · exact st.oo q y
      · exact .inr y
    · exact hp.elim
end
end PL
/-! PL, part p: plain readings of the mirrors: portions, loops. -/
namespace PL
open PySem L2
@[simp] theorem isi1 (v : Int) : fIsi "int" [.int v] = .ok (.bl true) := by
  have h : kitB "int" "int" = some true := by decide +kernel
  simp [fIsi, tyName, h]
@[simp] theorem isi2 (v : Int) : fIsi "bool" [.int v] = .ok (.bl false) := by
  have h : kitB "int" "bool" = some false := by decide +kernel
  simp [fIsi, tyName, h]
@[simp] theorem isi3 (v : List D) : fIsi "tuple" [.tup v] = .ok (.bl true) := by
  have h : kitB "tuple" "tuple" = some true := by decide +kernel
  simp [fIsi, tyName, h]
abbrev Q := Nat × Nat
def qd (q : Q) : D := .tup [.int (q.1 : Int), .int (q.2 : Int)]
/-- lowest terms, small, a chance of 60 figures -/
def pok (q : Q) : Bool := decide (q.1 ≤ 10 ^ 60) && decide (1 ≤ q.2) && decide (q.2 ≤ 10 ^ 60) && (Nat.gcd q.1 q.2 == 1)
theorem okq_int (x : Int) (n : Nat) : D.okq (n + 1) (.int x) = true := by simp [D.okq]
theorem okq_q (a : Q) (n : Nat) : D.okq (n + 2) (qd a) = true := by simp [qd, D.okq, D.okqL]
theorem okqL_q (n : Nat) : ∀ xs : List Q, D.okqL (n + 2) (xs.map qd) = true
  | [] => by simp [D.okqL]
  | x :: xs => by simp [D.okqL, okq_q, okqL_q n xs]
theorem dEq_int (a b : Int) : dEq (.int a) (.int b) = .ok (.bl (decide (a = b))) := by
  simp [dEq, okq_int _ 19, dEqv, D.pyd, PyData.eqv]
  by_cases h : a = b <;> simp [h]
theorem dNe_int (a b : Int) : dNe (.int a) (.int b) = .ok (.bl (!decide (a = b))) := by
  simp [dNe, okq_int _ 19, dEqv, D.pyd, PyData.eqv]
  by_cases h : a = b <;> simp [h]
theorem eqv_q (a b : Q) : PyData.eqv (qd a).pyd (qd b).pyd = decide (a = b) := by
  obtain ⟨a1, a2⟩ := a
  obtain ⟨b1, b2⟩ := b
  simp only [qd, D.pyd, D.pydL, PyData.eqv, PyData.eqvAll, Prod.mk.injEq, Bool.and_true]
  have e : ∀ x y : Nat, ((x : Int) == (y : Int)) = decide (x = y) := fun x y => by
    by_cases h : x = y
    · subst h; simp
    · have h2 : ¬ (x : Int) = (y : Int) := by omega
      simp [h, h2]
  rw [e, e]
  by_cases h1 : a1 = b1 <;> by_cases h2 : a2 = b2 <;> simp [h1, h2]
theorem eqvL_q : ∀ xs ys : List Q, PyData.eqvAll (D.pydL (xs.map qd)) (D.pydL (ys.map qd)) = decide (xs = ys)
  | [], [] => by simp [D.pydL, PyData.eqvAll]
  | [], y :: ys => by simp [D.pydL, PyData.eqvAll]
  | x :: xs, [] => by simp [D.pydL, PyData.eqvAll]
  | x :: xs, y :: ys => by
    simp only [List.map_cons, D.pydL, PyData.eqvAll, eqv_q, eqvL_q xs ys, List.cons.injEq]
    by_cases h1 : x = y <;> by_cases h2 : xs = ys <;> simp [h1, h2]
theorem dEq_q (a b : Q) : dEq (qd a) (qd b) = .ok (.bl (decide (a = b))) := by simp only [dEq, dEqv, eqv_q, okq_q _ 18, Bool.and_self, if_true]
theorem dNe_q (a b : Q) : dNe (qd a) (qd b) = .ok (.bl (!decide (a = b))) := by simp only [dNe, dEqv, eqv_q, okq_q _ 18, Bool.and_self, if_true]
theorem dEq_tq (a b : List Q) : dEq (.tup (a.map qd)) (.tup (b.map qd)) = .ok (.bl (decide (a = b))) := by
  have h : ∀ xs : List Q, D.okq 20 (.tup (xs.map qd)) = true := fun xs => by
    simp [D.okq]; exact okqL_q _ xs
  simp only [dEq, dEqv, h, Bool.and_self, if_true, D.pyd, PyData.eqv, eqvL_q]
theorem dNe_tq (a b : List Q) : dNe (.tup (a.map qd)) (.tup (b.map qd)) = .ok (.bl (!decide (a = b))) := by
  have h : ∀ xs : List Q, D.okq 20 (.tup (xs.map qd)) = true := fun xs => by
    simp [D.okq]; exact okqL_q _ xs
  simp only [dNe, dEqv, h, Bool.and_self, if_true, D.pyd, PyData.eqv, eqvL_q]
def big : Nat := 2 ^ 2000
def sm (x : Nat) : Bool := Nat.blt x big
theorem sm_log {x : Nat} (h : sm x = true) : x.log2 < 2000 := by
  unfold sm at h
  have h2 : x < 2 ^ 2000 := by
    have := Nat.blt_eq.mp h
    exact this
  by_cases h0 : x = 0
  · subst h0; decide
  · exact (Nat.log2_lt h0).mpr h2
theorem mulOk_sm {x y : Nat} (h1 : sm x = true) (h2 : sm y = true) : mulOk (x : Int) (y : Int) = true := by
  have a := sm_log h1
  have b := sm_log h2
  simp only [mulOk, Int.natAbs_natCast, Bool.or_eq_true, decide_eq_true_eq]
  exact .inl (.inl (by omega))
def lowN (t b : Nat) : Q := (t / Nat.gcd t b, b / Nat.gcd t b)
def plusN (x y : Q) : Option Q := if sm x.1 && sm x.2 && sm y.1 && sm y.2 && Nat.blt 0 (x.2 * y.2) then some (lowN (x.1 * y.2 + y.1 * x.2) (x.2 * y.2)) else none
def timesN (x y : Q) : Option Q := if sm x.1 && sm x.2 && sm y.1 && sm y.2 && Nat.blt 0 (x.2 * y.2) then some (lowN (x.1 * y.1) (x.2 * y.2)) else none
def quotN (x y : Q) : Option Q := if sm x.1 && sm x.2 && sm y.1 && sm y.2 && Nat.blt 0 (x.2 * y.1) then some (lowN (x.1 * y.2) (x.2 * y.1)) else none
theorem log_sm {x y : Nat} (h0 : 0 < x * y) (h1 : sm x = true) (h2 : sm y = true) : (x * y).log2 < 9000 := by
  have a := Nat.blt_eq.mp h1
  have b := Nat.blt_eq.mp h2
  rw [Nat.log2_lt (by omega)]
  have c : x * y < 2 ^ 2000 * 2 ^ 2000 := Nat.mul_lt_mul'' a b
  rw [← Nat.pow_add] at c
  exact Nat.lt_of_lt_of_le c (Nat.pow_le_pow_right (by decide) (by decide))

/-! ### loops -/
/-- what a slot holds by the way -/
@[reducible] def jk : Option D → Slot
  | none => .em
  | some d => .pu d
theorem zipD_map {α β : Type} (f : α → D) (g : β → D) : ∀ (xs : List α) (ys : List β), zipD (xs.map f) (ys.map g) = (xs.zip ys).map fun p => .tup [f p.1, g p.2]
  | [], _ => by simp [zipD]
  | _ :: _, [] => by simp [zipD]
  | x :: xs, y :: ys => by simp [zipD, zipD_map f g xs ys]
theorem enumD_map {α : Type} (f : α → D) : ∀ (xs : List α) (n : Nat), enumD n (xs.map f) = (xs.zipIdx n).map fun p => .tup [.int (p.2 : Int), f p.1]
  | [], _ => by simp [enumD]
  | x :: xs, n => by simp [enumD, enumD_map f xs (n + 1)]
theorem cutD_drop (ds : List D) (k : Nat) : cutD ds (some (k : Int)) none = ds.drop k := by
  unfold cutD
  rw [HT.sIx_nat, HT.sIx_none]
  by_cases h : k ≤ ds.length
  · rw [Nat.min_eq_left h, List.take_of_length_le (by simp)]
  · rw [Nat.min_eq_right (by omega)]
    simp
    omega
theorem cutD_take (ds : List D) (k : Nat) : cutD ds none (some (k : Int)) = ds.take k := by
  unfold cutD
  rw [HT.sIx_nat, HT.sIx_none]
  simp only [List.drop_zero, Nat.sub_zero]
  by_cases h : k ≤ ds.length
  · rw [Nat.min_eq_left h]
  · rw [Nat.min_eq_right (by omega), List.take_of_length_le (Nat.le_refl _), List.take_of_length_le (by omega)]
theorem cutD_from (ds : List D) (k m : Nat) : cutD ds (some (k : Int)) (some (m : Int)) = (ds.take m).drop k := by
  unfold cutD
  rw [HT.sIx_nat, HT.sIx_nat, List.drop_take]
  by_cases h : k ≤ ds.length
  · rw [Nat.min_eq_left h]
    by_cases h2 : m ≤ ds.length
    · rw [Nat.min_eq_left h2]
    · rw [Nat.min_eq_right (by omega), List.take_of_length_le (by simp), List.take_of_length_le (by simp; omega)]
  · rw [show min k ds.length = ds.length from Nat.min_eq_right (by omega), List.drop_eq_nil_of_le (Nat.le_refl ds.length), List.drop_eq_nil_of_le (show ds.length ≤ k by omega)]
    simp
theorem fRange1 {j : Int} {k : Nat} (h : j = (k : Int)) (hk : k ≤ 1000000) : fRange [.int j] = .ok ((List.range k).map fun i : Nat => D.int (i : Int)) := by
  subst h
  show (if Nat.ble (k : Int).natAbs 1000000000 = true then Res.ok (rgD 0 (k : Int).toNat) else .stuck) = _
  rw [if_pos (Nat.ble_eq.mpr (by omega))]
  simp [rgD]
theorem fRange2 {i j : Int} {a k : Nat} (h : i = (a : Int)) (h2 : j = ((a + k : Nat) : Int)) (hk : a + k ≤ 1000000) : fRange [.int i, .int j] = .ok ((List.range k).map fun t : Nat => D.int ((a + t : Nat) : Int)) := by
  subst h
  subst h2
  show (if (Nat.ble (a : Int).natAbs 1000000000 && Nat.ble ((a + k : Nat) : Int).natAbs 1000000000) = true then Res.ok (rgD (a : Int) (((a + k : Nat) : Int) - (a : Int)).toNat) else .stuck) = _
  rw [if_pos (by rw [Nat.ble_eq.mpr (show (a : Int).natAbs ≤ 1000000000 by omega), Nat.ble_eq.mpr (show ((a + k : Nat) : Int).natAbs ≤ 1000000000 by omega)]; rfl), show (((a + k : Nat) : Int) - (a : Int)).toNat = k by omega]
  simp [rgD]
theorem iCall_ok {g : List D → Res (List D)} {fs : Ev → Res (List D × Ev)} {ε ε1 : Ev} {ds ys : List D} (h1 : fs ε = .ok (ds, ε1)) (h2 : g ds = .ok ys) : iCall g fs ε = .ok (ys, ε1) := by
  simp only [iCall, h1, Res.bind_ok, h2]
theorem sSeq_nx {f g : Ev → Out} {ε ε1 : Ev} (h : f ε = .nx ε1) : sSeq f g ε = g ε1 := by simp only [sSeq, h, Out.andThen]
theorem sRet_L {f : Ev → Res (List D × Ev)} {ε ε1 : Ev} {ds : List D} (h : f ε = .ok (ds, ε1)) : sRet (eL f) ε = .rt (.lst ds) ε1 := by simp only [sRet, eL, h, Res.bind_ok, Res.out]
theorem sRet_v {f : Ev → Res (D × Ev)} {ε ε1 : Ev} {d : D} (h : f ε = .ok (d, ε1)) : sRet f ε = .rt d ε1 := by simp only [sRet, h, Res.out]
theorem out_seq {f g : Ev → Out} {ε ε1 : Ev} {r : Res D} (h : f ε = .nx ε1) (h2 : outRes (g ε1) = r) : outRes (sSeq f g ε) = r := by rw [sSeq_nx h]; exact h2
theorem out_retL {f : Ev → Res (List D × Ev)} {ε ε1 : Ev} {ds : List D} (h : f ε = .ok (ds, ε1)) : outRes (sRet (eL f) ε) = .ok (.lst ds) := by rw [sRet_L h]
theorem out_ret {f : Ev → Res (D × Ev)} {ε ε1 : Ev} {d : D} (h : f ε = .ok (d, ε1)) : outRes (sRet f ε) = .ok d := by rw [sRet_v h]
theorem pick_go {α : Type} : ∀ (xs ys : List α), pick (List.range' ys.length xs.length) (ys ++ xs) = xs
  | [], ys => rfl
  | x :: xs, ys => by
    have h := pick_go xs (ys ++ [x])
    unfold pick at h ⊢
    rw [List.length_cons, List.range'_succ, List.filterMap_cons]
    have e : (ys ++ x :: xs)[ys.length]? = some x := by simp
    rw [e]
    simp only [List.length_append, List.length_singleton, List.append_assoc, List.singleton_append] at h
    rw [h]
theorem pick_all {α : Type} (xs : List α) : pick (List.range xs.length) xs = xs := by
  have h := pick_go xs []
  rw [List.range_eq_range']
  simpa using h
theorem pick_rev {α : Type} (xs : List α) : pick (List.range xs.length).reverse xs = xs.reverse := by
  have h := pick_all xs
  unfold pick at h ⊢
  rw [List.filterMap_reverse, h]
theorem pick_rev1 {α : Type} (xs : List α) : pick ((List.range xs.length).drop 1).reverse xs = (xs.drop 1).reverse := by
  cases xs with
  | nil => rfl
  | cons x xs =>
    have h := pick_go xs [x]
    unfold pick at h ⊢
    rw [List.filterMap_reverse, List.length_cons, List.range_eq_range', List.range'_succ, List.drop_one, List.tail_cons, List.drop_one, List.tail_cons]
    simp only [List.length_singleton, List.singleton_append] at h
    rw [Nat.zero_add, h]
theorem bIxL_all : ∀ n, n < 60 → bIxL none none n = (List.range n).reverse := by decide +kernel
theorem bIxL_down : ∀ n, n < 60 → bIxL none (some 0) n = ((List.range n).drop 1).reverse := by decide +kernel
theorem back_all {ds : List D} (h : ds.length < 60) : dBack (.lst ds) none none = .ok (.lst ds.reverse) := by
  simp only [dBack, bIxL_all _ h, List.length_reverse, List.length_range, pick_rev]
  rw [if_pos ⟨by omega, by omega⟩]
theorem back_down {ds : List D} (h : ds.length < 60) : dBack (.lst ds) none (some 0) = .ok (.lst (ds.drop 1).reverse) := by
  simp only [dBack, bIxL_down _ h, List.length_reverse, List.length_drop, List.length_range, pick_rev1]
  rw [if_pos ⟨by omega, by omega⟩]
theorem cutD_init (ds : List D) : cutD ds none (some (-1)) = ds.dropLast := by
  unfold cutD
  rw [HT.sIx_none]
  have e : HT.sIx ds.length ds.length (some (-1)) = ds.length - 1 := by
    show (if (-1 : Int) < 0 then ((-1 : Int) + (ds.length : Int)).toNat else min (-1 : Int).toNat ds.length) = _
    rw [if_pos (by decide)]
    omega
  rw [e, List.drop_zero, Nat.sub_zero, List.dropLast_eq_take]
def foldO {α ι : Type} (φ : α → ι → Option α) : List ι → α → Option α
  | [], a => some a
  | x :: xs, a => match φ a x with
    | some b => foldO φ xs b
    | none => none
def mapO {ι γ : Type} (φ : ι → Option γ) : List ι → Option (List γ)
  | [] => some []
  | x :: xs => match φ x with
    | some c => match mapO φ xs with
      | some cs => some (c :: cs)
      | none => none
    | none => none
/-- for: a fold over known things; β the junk of the slots -/
theorem forF_fold {α β ι : Type} {tgt : D → Ev → Res Ev} {body : Ev → Out} {it : ι → D} {φ : α → ι → Option α} {st : α → β → Ev}
    (h : ∀ a b j a', φ a j = some a' → ∃ ε1, tgt (it j) (st a b) = .ok ε1 ∧ ∃ b', body ε1 = .nx (st a' b')) : ∀ (xs : List ι) (a a' : α) (b : β), foldO φ xs a = some a' → ∃ b', forF tgt body (xs.map it) (st a b) = .nx (st a' b')
  | [], a, a', b, e => by
    simp only [foldO, Option.some.injEq] at e
    subst e
    exact ⟨b, rfl⟩
  | x :: xs, a, a', b, e => by
    simp only [foldO] at e
    cases e1 : φ a x with
    | none => rw [e1] at e; cases e
    | some a1 =>
      rw [e1] at e
      replace e : foldO φ xs a1 = some a' := e
      obtain ⟨ε1, t1, b1, t2⟩ := h a b x a1 e1
      obtain ⟨b2, t3⟩ := forF_fold h xs a1 a' b1 e
      refine ⟨b2, ?_⟩
      simp only [List.map_cons, forF, t1, Res.ne, t2, t3]
/-- a loop that ends at the first that is so -/
theorem forF_find {ι β : Type} {tgt : D → Ev → Res Ev} {body : Ev → Out} {it : ι → D} {p : ι → Bool} {out : ι → D} {st : β → Ev} : ∀ (xs : List ι), (∀ j ∈ xs, ∀ b, ∃ ε1, tgt (it j) (st b) = .ok ε1 ∧ ∃ b', body ε1 = if p j then .rt (out j) (st b') else .nx (st b')) → ∀ b, ∃ b', forF tgt body (xs.map it) (st b) = match xs.find? p with
    | some j => .rt (out j) (st b')
    | none => .nx (st b')
  | [], _, b => ⟨b, rfl⟩
  | x :: xs, h, b => by
    obtain ⟨ε1, t1, b1, t2⟩ := h x List.mem_cons_self b
    cases hp : p x with
    | true =>
      refine ⟨b1, ?_⟩
      simp only [List.map_cons, forF, t1, Res.ne, t2, hp, if_true, List.find?_cons]
    | false =>
      obtain ⟨b2, t3⟩ := forF_find xs (fun j hj => h j (List.mem_cons_of_mem _ hj)) b1
      refine ⟨b2, ?_⟩
      simp only [List.map_cons, forF, t1, Res.ne, t2, hp, Bool.false_eq_true, if_false, List.find?_cons, t3]
theorem sFor_fold {α β ι : Type} {src : Ev → Res (List D × Ev)} {tgt : D → Ev → Res Ev} {body : Ev → Out} (it : ι → D) (φ : α → ι → Option α) (st : α → β → Ev) {ε ε1 : Ev} {ys : List D} {xs : List ι} {a a' : α} {b : β} (hf : foldO φ xs a = some a') (hs : src ε = .ok (ys, ε1)) (hy : ys = xs.map it) (hε : ε1 = st a b)
    (h : ∀ a b j a', φ a j = some a' → ∃ ε1, tgt (it j) (st a b) = .ok ε1 ∧ ∃ b', body ε1 = .nx (st a' b')) : ∃ b', sFor src tgt body ε = .nx (st a' b') := by
  obtain ⟨b', e⟩ := forF_fold h xs a a' b hf
  refine ⟨b', ?_⟩
  simp only [sFor, hs, Res.out, hy, hε, e]
/-- [.. for ..] over known things -/
theorem loopC_map {ι γ : Type} {vs : List Nat} {blk : D → Ev → Res (Option D × Ev)} {it : ι → D} {φ : ι → Option γ} {out : γ → D} {ε : Ev} (hn : noOw ε vs = true) (h : ∀ j c, φ j = some c → blk (it j) ε = .ok (some (out c), ε)) : ∀ (xs : List ι) (cs : List γ) (acc : List D), mapO φ xs = some cs →
    loopC vs blk (xs.map it) ε acc = .ok (acc ++ cs.map out, ε)
  | [], cs, acc, e => by
    simp only [mapO, Option.some.injEq] at e
    subst e
    simp [loopC]
  | x :: xs, cs, acc, e => by
    simp only [mapO] at e
    cases e1 : φ x with
    | none => rw [e1] at e; cases e
    | some c =>
      rw [e1] at e
      simp only at e
      cases e2 : mapO φ xs with
      | none => rw [e2] at e; cases e
      | some cs' =>
        rw [e2] at e
        simp only [Option.some.injEq] at e
        subst e
        have t := loopC_map hn h xs cs' (acc ++ [out c]) e2
        simp only [List.map_cons, loopC, hn, if_true, h x c e1, Res.ne, Res.bind_ok, accD, t, List.append_assoc, List.singleton_append]
/-- .. with a test -/
theorem loopC_filter {ι : Type} {vs : List Nat} {blk : D → Ev → Res (Option D × Ev)} {it : ι → D} {p : ι → Bool} {out : ι → D} {ε : Ev} (hn : noOw ε vs = true) : ∀ (xs : List ι) (acc : List D), (∀ j ∈ xs, blk (it j) ε = .ok (if p j then some (out j) else none, ε)) →
    loopC vs blk (xs.map it) ε acc = .ok (acc ++ (xs.filter p).map out, ε)
  | [], acc, _ => by simp [loopC]
  | x :: xs, acc, h => by
    have t := loopC_filter hn (p := p) (out := out) xs (accD acc (if p x then some (out x) else none)) (fun j hj => h j (List.mem_cons_of_mem _ hj))
    simp only [List.map_cons, loopC, hn, if_true, h x List.mem_cons_self, Res.ne, Res.bind_ok, t]
    by_cases hp : p x = true
    · simp [hp, accD]
    · simp [hp, accD]
theorem eComp_map {ι γ : Type} {vs : List Nat} {src : Ev → Res (List D × Ev)} {tgt : D → Ev → Res Ev} {test : Ev → Res (Bool × Ev)} {elt : Ev → Res (D × Ev)} (it : ι → D) (φ : ι → Option γ) (out : γ → D) {ε ε1 : Ev} {ys : List D} {xs : List ι} {cs : List γ} (hm : mapO φ xs = some cs) (hs : src ε = .ok (ys, ε1)) (hy : ys = xs.map it) (hl : xs.length ≤ 1000000) (hn : noOw ε1 vs = true)
    (h : ∀ j c, φ j = some c → blkF vs tgt test elt (it j) ε1 = .ok (some (out c), ε1)) : eComp vs src tgt test elt ε = .ok (cs.map out, ε1) := by
  have t := loopC_map (it := it) (out := out) hn h xs cs [] hm
  simp only [eComp, hs, Res.bind_ok, hy, List.length_map, hl, if_true, t, List.nil_append]
theorem eComp_filter {ι : Type} {vs : List Nat} {src : Ev → Res (List D × Ev)} {tgt : D → Ev → Res Ev} {test : Ev → Res (Bool × Ev)} {elt : Ev → Res (D × Ev)} (it : ι → D) (p : ι → Bool) (out : ι → D) {ε ε1 : Ev} {ys : List D} {xs : List ι} (hs : src ε = .ok (ys, ε1)) (hy : ys = xs.map it) (hl : xs.length ≤ 1000000) (hn : noOw ε1 vs = true)
    (h : ∀ j ∈ xs, blkF vs tgt test elt (it j) ε1 = .ok (if p j then some (out j) else none, ε1)) : eComp vs src tgt test elt ε = .ok ((xs.filter p).map out, ε1) := by
  have t := loopC_filter (it := it) (out := out) hn xs [] h
  simp only [eComp, hs, Res.bind_ok, hy, List.length_map, hl, if_true, t, List.nil_append]
end PL
namespace PL
@[simp] theorem s_ixN (n : Nat) (i : Int) : L2.ixN n i = if 0 ≤ i then (if i < n then some i.toNat else none) else if -(n : Int) ≤ i then some (i + n).toNat else none := rfl
@[simp] theorem s_atI {α : Type} (xs : List α) (i : Int) : L2.atI xs i = (L2.ixN xs.length i).bind fun j => xs[j]? := rfl
end PL
/-! PL, part q: in, not in (flat items); list(range(..)), tuple(range(..)). -/
namespace PL
open PySem PySem.Spec PyProof.Rows L2
def flatD : D → Option V
  | .non => some .non
  | .bl b => some (.bl b)
  | .int i => some (.int i)
  | .str x => some (.str x)
  | _ => none
def flatL : List D → Option (List V)
  | [] => some []
  | d :: ds => match flatD d, flatL ds with
    | some v, some vs => some (v :: vs)
    | _, _ => none
theorem flatD_rp {F : Fx} {G : Hp} {d : D} {v w : V} (h : flatD d = some v) (r : Rp F G d w) : w = v ∧ flatV v = true := by
  cases d with
  | non => cases h; rw [rp_non] at r; exact ⟨r, rfl⟩
  | bl b => cases h; rw [rp_bl] at r; exact ⟨r, rfl⟩
  | int b => cases h; rw [rp_int] at r; exact ⟨r, rfl⟩
  | str b => cases h; rw [rp_str] at r; exact ⟨r, rfl⟩
  | _ => cases h
theorem flatL_rp {F : Fx} {G : Hp} : ∀ {ds : List D} {vs ws : List V}, flatL ds = some vs → RpL F G ds ws → ws = vs ∧ vs.all flatV = true
  | [], vs, ws, h, r => by
    simp only [flatL, Option.some.injEq] at h
    subst h
    exact ⟨r.of_nil, rfl⟩
  | d :: ds, vs, ws, h, r => by
    obtain ⟨w, r', rfl, rd, rl⟩ := r.of_cons
    simp only [flatL] at h
    cases e1 : flatD d with
    | none => rw [e1] at h; cases h
    | some v =>
      rw [e1] at h
      cases e2 : flatL ds with
      | none => rw [e2] at h; cases h
      | some us =>
        rw [e2] at h
        cases h
        obtain ⟨a, b⟩ := flatD_rp e1 rd
        obtain ⟨c, d⟩ := flatL_rp e2 rl
        subst a
        subst c
        exact ⟨rfl, by rw [List.all_cons, b, d]; rfl⟩
def inD (neg : Bool) (x : D) (ds : List D) : Res D := match flatD x, flatL ds with
  | some v, some vs => .ok (.bl (if neg then !inV v vs else inV v vs))
  | _, _ => .stuck
def dIn (neg : Bool) : D → D → Res D
  | x, .lst ds => inD neg x ds
  | x, .tup ds => inD neg x ds
  | _, _ => .stuck
section
variable {M : Fr} {W : WX} {X : Cx} {k : Nat}
theorem opH_in (neg : Bool) : OpH M W (rIn M.F.K neg) (dIn neg) := by
  intro x y v w σ G H ε s rx ry Q hp
  have fin : ∀ (ds : List D) (ws : List V) (p : Addr), w = .ref p → (SqL M.F.K H p ws ∨ SqT M.F.K H p ws) → RpL M.F G ds ws → Post M W σ G H ε (Rp M.F) ((inD neg x ds).bind fun d => .ok (d, ε)) Q → rIn M.F.K neg v w H Q := by
    intro ds ws p ew hq l hp
    unfold inD at hp
    split at hp
    · rename_i v0 vs e1 e2
      obtain ⟨a, b⟩ := flatL_rp e2 l
      subst a
      have hv : v = v0 ∧ flatV v0 = true := by
        cases x with
        | lst _ => cases e1
        | _ => exact flatD_rp (F := M.F) (G := G) e1 rx
      obtain ⟨c, d⟩ := hv
      subst c
      exact ⟨p, ws, ew, hq, d, b, post_ok hp s (rp_bl.mpr rfl)⟩
    · exact hp.elim
  cases y with
  | lst ds =>
    obtain ⟨p, ws, rfl, hv, l⟩ := ry
    exact fin ds ws p rfl (.inl (SqL.of hv)) l (by cases x <;> exact hp)
  | tup ds =>
    obtain ⟨p, ws, rfl, hv, l⟩ := rpH_tup.mp ry
    exact fin ds ws p rfl (.inr (sqT_mono s.sub hv)) l (by cases x <;> exact hp)
  | _ => cases x <;> exact hp.elim
theorem cm_in (c : CO M W k X) : CmpR M W X .In (dIn false) := ⟨_, by rw [← c.hK]; exact op_in_seq, (opH_in false).opT⟩
theorem cm_nin (c : CO M W k X) : CmpR M W X .NotIn (dIn true) := ⟨_, by rw [← c.hK]; exact op_notIn_seq, (opH_in true).opT⟩
end

/-! list(range(..)), tuple(range(..)) -/
theorem rpL_rg {F : Fx} {G : Hp} (lo : Int) : ∀ l : List Nat, RpL F G (l.map fun (i : Nat) => D.int (lo + i)) (l.map fun (i : Nat) => V.int (lo + i))
  | [] => RpL.nil
  | x :: xs => RpL.cons (rp_int.mpr rfl) (rpL_rg lo xs)
def rgOk (a b : Int) : Bool := Nat.ble a.natAbs 1000000000 && Nat.ble b.natAbs 1000000000 && Nat.ble (b - a).toNat 1000000
def dRg : D → D → Res (List D)
  | .int a, .int b => if rgOk a b = true then .ok (rgD a (b - a).toNat) else .stuck
  | _, _ => .stuck
@[reducible, simp] def eRg1 (fa : Ev → Res (D × Ev)) : Ev → Res (List D × Ev) := fun ε => (fa ε).bind fun p => (dRg (.int 0) p.1).bind fun ds => .ok (ds, p.2)
@[reducible, simp] def eRg2 (fa fb : Ev → Res (D × Ev)) : Ev → Res (List D × Ev) := fun ε => (fa ε).bind fun p => (fb p.2).bind fun q => (dRg p.1 q.1).bind fun ds => .ok (ds, q.2)
theorem rgOk_ok {a b : Int} (h : rgOk a b = true) : RgOk a b := by
  simp only [rgOk, Bool.and_eq_true, Nat.ble_eq] at h
  obtain ⟨⟨h1, h2⟩, h3⟩ := h
  exact ⟨by omega, by omega, by omega, by omega, by omega⟩
section
variable {M : Fr} {W : WX} {X : Cx} {k : Nat} {a b : Expr} {fa fb : Ev → Res (D × Ev)} {p p2 pos pos2 : Pos}
theorem trN_rg1 {ta : TE} (qa : Tr M W (Rp M.F) ta fa) : TrN M W (tLstRg (tRg1 ta)) (eRg1 fa) := by
  intro σ G H ε s Q hp
  refine qa σ G H ε s _ ?_
  simp only [eRg1] at hp
  cases e : fa ε with
  | stuck => rw [e] at hp; exact hp
  | err c => rw [e] at hp; exact hp
  | ok q =>
    rw [e] at hp
    simp only [Res.bind_ok] at hp
    intro v G1 H1 s1 st1 rv
    have hp1 := hp
    cases hd : q.1 with
    | int n =>
      rw [hd] at hp1 rv
      rw [rp_int] at rv
      simp only [dRg] at hp1
      split at hp1
      · rename_i hok
        refine ⟨n, rv, rgOk_ok hok, fun r hr => ?_⟩
        have hp2 : PostN M W σ G1 H1 q.2 (.ok (rgD 0 (n - 0).toNat, q.2)) Q := PostN.shift s1 st1 hp1
        exact postN_new hp2 s1 hr (rpL_rg 0 _)
      · exact hp1.elim
    | _ => rw [hd] at hp1; exact hp1.elim
theorem pn_lrange1 (c : CO M W k X) (hm : X.mg "list" = none) (hm2 : X.mg "range" = none) (ha : PV M W X a fa) (hg : Gl X "list" := by rfl) (hg2 : Gl X "range" := by rfl) (na : starEach [a] X.env = (false, eval a X.env) :: starEach [] X.env := by rfl)
    (na2 : starEach [.Call (.Name "range" p2) [a] [] pos2] X.env = (false, eval (.Call (.Name "range" p2) [a] [] pos2) X.env) :: starEach [] X.env := by rfl) : PN M W X (.Call (.Name "list" p) [.Call (.Name "range" p2) [a] [] pos2] [] pos) (eRg1 fa) := by
  obtain ⟨ta, ea, qa⟩ := ha
  exact ⟨_, pe_listRg c.calm hg hm (prg_1 hg2 hm2 ea na) na2, trN_rg1 qa⟩
theorem pv_trange1 (c : CO M W k X) (hm : X.mg "tuple" = none) (hm2 : X.mg "range" = none) (ha : PV M W X a fa) (hg : Gl X "tuple" := by rfl) (hg2 : Gl X "range" := by rfl) (na : starEach [a] X.env = (false, eval a X.env) :: starEach [] X.env := by rfl)
    (na2 : starEach [.Call (.Name "range" p2) [a] [] pos2] X.env = (false, eval (.Call (.Name "range" p2) [a] [] pos2) X.env) :: starEach [] X.env := by rfl) : PV M W X (.Call (.Name "tuple" p) [.Call (.Name "range" p2) [a] [] pos2] [] pos) (eTup (eRg1 fa)) := by
  obtain ⟨ta, ea, qa⟩ := ha
  refine ⟨_, pe_tupRg c.calm hg hm (prg_1 hg2 hm2 ea na) na2, fun σ G H ε s Q hp => ?_⟩
  refine qa σ G H ε s _ ?_
  simp only [eTup, eRg1] at hp
  cases e : fa ε with
  | stuck => rw [e] at hp; exact hp
  | err c => rw [e] at hp; exact hp
  | ok q =>
    rw [e] at hp
    simp only [Res.bind_ok] at hp
    intro v G1 H1 s1 st1 rv
    have hp1 := hp
    cases hd : q.1 with
    | int n =>
      rw [hd] at hp1 rv
      rw [rp_int] at rv
      simp only [dRg] at hp1
      split at hp1
      · rename_i hok
        refine ⟨n, rv, rgOk_ok hok, fun r hr => ?_⟩
        have hp2 : Post M W σ G1 H1 q.2 (Rp M.F) (.ok (.tup (rgD 0 (n - 0).toNat), q.2)) Q := Post.shift s1 st1 hp1
        exact post_new hp2 s1 hr (fun ps z => by cases z) (rp_tup.mpr ⟨r, _, rfl, .inl (.inl upd_same), rpL_rg 0 _⟩)
      · exact hp1.elim
    | _ => rw [hd] at hp1; exact hp1.elim
end
end PL
/-! PL, part r: a def that calls itself: by the number of calls that may stand one in another. -/
namespace PL
open PySem PySem.Spec PyProof.Rows L2
section
variable {P : Program} {w : World} {K : PySem.W.Frag} {mg : Str → Option Value} {base : Heap}
theorem fn_none {F : Fx} {x qual : Str} {st : Stmt} {f : Addr} {fd : FuncData} {N ps : List Str} {k n : Nat} (Fu : Fun K x qual st f fd) (S : FnScope N ps (defScope st)) (hn : ps.length = n) : FnOk P w K mg base (L2N.CX P w) (k + 1) f fd ps (SpP F n fun _ => .stuck) := by
  refine Fu.okN S (fun vs H Q E ⟨ds, G, h1, h2, h3, _⟩ => by rw [← h3.length, h1, hn]) fun cdv A outer s H vs Q E hr h => ?_
  obtain ⟨ds, G, h1, h2, h3, h4⟩ := h
  exact h4.elim
end
/-- the mirror of a def that calls itself -/
def recG (n : Nat) (b : (List D → Res D) → Ev → Out) : Nat → List D → Res D
  | 0, _ => .stuck
  | m + 1, ds => outRes (b (recG n b m) (startE n ds))
end PL
/-! PL, part s: within an except suite (an exception is handled, its own context None): a list walked to its end, a tuple unpacked, a comprehension over a list. -/
namespace PL
open PySem PySem.Spec PyProof.Rows L2 L2H HotX
section
variable {prog : Program} {w : World} {A : Around} {E : Value → Shared → Prop} {s : Shared}
/-- a list's iterator at its end, while x1 is handled -/
theorem listEnd_hot {x1 it lst : Addr} {n : Nat} {xs : Array Value} {R : Option Value → Shared → Prop} (hot : HotAt A x1 s.heap) (hne : x1 ≠ it) (hi : s.heap.IsListIter it lst n) (hl : s.heap.IsList lst xs) (hz : xs[n]? = none)
    (hR : ∀ h2, Heap.ExtBut it s.heap h2 → R none { s with heap := h2 }) : wpAny (model prog w) A (pyNext (.ref it)) R E s := by
  obtain ⟨hh, o1, vs1, h1, d1, c1⟩ := hot
  obtain ⟨oi, hoi, hci, hdi⟩ := id hi
  obtain ⟨oq, hoq, _, nq, hdq⟩ := hl
  unfold pyNext
  refine wpAny_bind (wpAny_attempt (wpAny_callSpecial?_slot (name := Str.ofString "__next__") hi.typeIs slot_listiter_next (wpAny_call_entry slot_listiter_next hi.typeIs entry_listiter_next ?_ (args_listiter_next _))))
  show wpAny _ _ (do let v ← field (.ref it) 0; _) _ _ s
  refine wpAny_bind (wpAny_field hoi hdi (x := .ref lst) rfl ?_)
  show wpAny _ _ (ite ((Value.ref lst == Value.none) = true) _ _) _ _ s
  rw [if_neg (show ¬ (Value.ref lst == Value.none) = true from Bool.false_ne_true)]
  show wpAny _ _ (do let v ← field (.ref it) 1; _) _ _ s
  refine wpAny_bind (wpAny_field hoi hdi (x := .int n 0) rfl ?_)
  show wpAny _ _ (do let v ← seqItems? (.ref lst); _) _ _ s
  refine wpAny_bind (wpAny_seqItems hoq hdq ?_)
  simp only [Int.toNat_natCast, hz]
  refine wpAny_bind (wpAny_rule (wpAny_bind (wpAny_setField hoi hdi (by simp) ?_)))
  have h1' := (Heap.get?_update_other s.heap (Obj.mapFields fun x => x.setIfInBounds 0 Value.none) hne.symm).trans h1
  show wpAny _ _ (do let e ← newExc (.type "StopIteration") []; _) _ _ _
  refine wpAny_bind ?_
  simp only [newExc, newTuple]
  refine wpAny_bind (wpAny_newObj_type ?_ (by size_fits))
  refine wpAny_bind (m := firstArgMember _ _) (wpAny_of_eq (a := Value.none) (by first | rfl | (simp only [firstArgMember]; rfl)) ?_)
  refine wpAny_newObj_type ?_ (by size_fits)
  refine raiseNew_hot ⟨hh, o1, vs1, Heap.get?_push_of_some _ (Heap.get?_push_of_some _ h1'), d1, c1⟩ (Nat.ne_of_lt (Heap.lt_size (Heap.get?_push_of_some _ h1'))) (Heap.get?_push_size _ rfl) rfl (by first | (simp; done) | (simp; omega) | (simp only [Array.size_append]; simp; omega)) ?_
  refine wpAny_bind (wpAny_isInstance (T := "StopIteration") (b := true) ⟨_, Heap.get?_update_self _ (Heap.get?_push_size _ rfl) rfl, rfl⟩ isSubtype_stop ?_)
  refine wpAny_pure (hR _ fun b u hb e => ?_)
  have e2 := (Heap.get?_update_other s.heap (Obj.mapFields fun x => x.setIfInBounds 0 Value.none) hb.symm).trans e
  rw [Heap.get?_update_other _ _ (Nat.ne_of_gt (Heap.lt_size (Heap.get?_push_of_some _ e2)))]
  exact Heap.get?_push_of_some _ (Heap.get?_push_of_some _ e2)
/-- .. a tuple's -/
theorem tupEnd_hot {x1 it lst : Addr} {n : Nat} {xs : Array Value} {R : Option Value → Shared → Prop} (hot : HotAt A x1 s.heap) (hne : x1 ≠ it) (hi : IsTupIter s.heap it lst n) (hl : IsTup s.heap lst xs) (hz : xs[n]? = none)
    (hR : ∀ h2, Heap.ExtBut it s.heap h2 → R none { s with heap := h2 }) : wpAny (model prog w) A (pyNext (.ref it)) R E s := by
  obtain ⟨hh, o1, vs1, h1, d1, c1⟩ := hot
  obtain ⟨oi, hoi, hci, hdi⟩ := id hi
  obtain ⟨oq, hoq, _, nq, hdq⟩ := hl
  unfold pyNext
  refine wpAny_bind (wpAny_attempt (wpAny_callSpecial?_slot (name := Str.ofString "__next__") hi.typeIs slot_tupleiter_next (wpAny_call_entry slot_tupleiter_next hi.typeIs entry_tupleiter_next ?_ (args_tupleiter_next _))))
  show wpAny _ _ (do let v ← field (.ref it) 0; _) _ _ s
  refine wpAny_bind (wpAny_field hoi hdi (x := .ref lst) rfl ?_)
  show wpAny _ _ (ite ((Value.ref lst == Value.none) = true) _ _) _ _ s
  rw [if_neg (show ¬ (Value.ref lst == Value.none) = true from Bool.false_ne_true)]
  show wpAny _ _ (do let v ← field (.ref it) 1; _) _ _ s
  refine wpAny_bind (wpAny_field hoi hdi (x := .int n 0) rfl ?_)
  show wpAny _ _ (do let v ← seqItems? (.ref lst); _) _ _ s
  refine wpAny_bind (wpAny_seqItems hoq hdq ?_)
  simp only [Int.toNat_natCast, hz]
  refine wpAny_bind (wpAny_rule (wpAny_bind (wpAny_setField hoi hdi (by simp) ?_)))
  have h1' := (Heap.get?_update_other s.heap (Obj.mapFields fun x => x.setIfInBounds 0 Value.none) hne.symm).trans h1
  show wpAny _ _ (do let e ← newExc (.type "StopIteration") []; _) _ _ _
  refine wpAny_bind ?_
  simp only [newExc, newTuple]
  refine wpAny_bind (wpAny_newObj_type ?_ (by size_fits))
  refine wpAny_bind (m := firstArgMember _ _) (wpAny_of_eq (a := Value.none) (by first | rfl | (simp only [firstArgMember]; rfl)) ?_)
  refine wpAny_newObj_type ?_ (by size_fits)
  refine raiseNew_hot ⟨hh, o1, vs1, Heap.get?_push_of_some _ (Heap.get?_push_of_some _ h1'), d1, c1⟩ (Nat.ne_of_lt (Heap.lt_size (Heap.get?_push_of_some _ h1'))) (Heap.get?_push_size _ rfl) rfl (by first | (simp; done) | (simp; omega) | (simp only [Array.size_append]; simp; omega)) ?_
  refine wpAny_bind (wpAny_isInstance (T := "StopIteration") (b := true) ⟨_, Heap.get?_update_self _ (Heap.get?_push_size _ rfl) rfl, rfl⟩ isSubtype_stop ?_)
  refine wpAny_pure (hR _ fun b u hb e => ?_)
  have e2 := (Heap.get?_update_other s.heap (Obj.mapFields fun x => x.setIfInBounds 0 Value.none) hb.symm).trans e
  rw [Heap.get?_update_other _ _ (Nat.ne_of_gt (Heap.lt_size (Heap.get?_push_of_some _ e2)))]
  exact Heap.get?_push_of_some _ (Heap.get?_push_of_some _ e2)
/-- a tuple taken apart there -/
theorem unpack_hot {x1 t : Addr} {xs : Array Value} {env : Env} {es : List Expr} {kk : Nat} {pos : Pos} {R : Unit → Shared → Prop} (hot : HotAt A x1 s.heap) (ht : IsTup s.heap t xs) (hn : (assignEach es env).length = xs.size) (hst : (assignEach es env).findIdx? (·.1) = none)
    (h : ∀ h2, Heap.ExtBut s.heap.objs.size s.heap h2 → wpAny (model prog w) A (assignInOrder ((assignEach es env).map (·.2)) xs.toList) R E { s with heap := h2 }) : wpAny (model prog w) A (assign (.Tuple es kk pos) env (.ref t)) R E s := by
  obtain ⟨hh, o1, vs1, h1, d1, c1⟩ := hot
  have hlt : t ≠ s.heap.objs.size := by
    obtain ⟨o, ho, _⟩ := ht
    exact Nat.ne_of_lt (Heap.lt_size ho)
  rw [assign_Tuple]
  refine wpAny_bind (wpAny_standAt ?_)
  unfold unpack
  rw [hn, hst]
  refine wpAny_bind (wpAny_holding ?_)
  unfold unpackItems
  refine wpAny_bind ?_
  unfold notIterableAtAll
  refine wpAny_bind (wpAny_specialOf ht.typeIs slot_tuple_iter.lookup ?_)
  refine wpAny_pure ?_
  simp only [Bool.false_eq_true, if_false]
  refine wpAny_bind (wpAny_holding (iter_tuple ht ?_))
  refine wpAny_bind (wpAny_holding (draw_tuple hlt xs.size 0 _ _ ⟨_, Heap.get?_push_size _ rfl, rfl, rfl⟩ (ht.push _) (by omega) fun g1 hit1 hs1 => ?_))
  have hall : List.take xs.size (List.drop 0 xs.toList) = xs.toList := by
    rw [List.drop_zero]
    exact List.take_of_length_le (by simp)
  rw [hall, if_neg (by simp)]
  have ht1 : IsTup g1 t xs := (ht.push _).extBut hs1.extBut hlt
  have nx1 : x1 ≠ s.heap.objs.size := Nat.ne_of_lt (Heap.lt_size h1)
  have hx1 : g1.get? x1 = some o1 := hs1.extBut x1 o1 nx1 (Heap.get?_push_of_some _ h1)
  refine wpAny_bind (wpAny_holding (tupEnd_hot (x1 := x1) ⟨hh, o1, vs1, hx1, d1, c1⟩ nx1 hit1 ht1 (by simp) fun g2 he2 => ?_))
  simp only [Option.isSome_none, Bool.false_eq_true, if_false]
  exact wpAny_pure (h g2 fun b u hb e => he2 b u hb (hs1.extBut b u hb (Heap.get?_push_of_some _ e)))
end

/-! ### walks -/
theorem turnL_hot {P : Program} {w : World} {K : PySem.W.Frag} {tg : Expr} (a it : Addr) : TurnH P w K tg (Itl K a) [it] it (fun i h => h.IsListIter it a i) where
  mem := List.mem_singleton.mpr rfl
  obj := fun i h st b hb => by
    cases List.mem_singleton.mp hb
    obtain ⟨o, e, c, d⟩ := st
    exact ⟨o, e, fun v z => by rw [d] at z; cases z⟩
  keep := fun i h h2 st k => st.at fun o e => k it (List.mem_singleton.mpr rfl) o e
  item := fun X hP hw hK hc i pins s σ H E I hf st hg => by
    subst hP hw hK
    obtain ⟨xs, x, hq, hx⟩ := hg
    obtain ⟨its, rv, p, hz⟩ := I.list hq
    obtain ⟨u, hu, ru⟩ := rv.get hx
    obtain ⟨q0, q1, q2, q3, q4, q5⟩ := hf it (List.mem_singleton.mpr rfl)
    refine wpAny_pyNext_list_item st p.isList (x := u) (by simpa using hu) fun h2 st2 sb => ?_
    obtain ⟨o, e, c, d⟩ := id st2
    exact ⟨u, rfl, go_of (s := { s with heap := h2 }) e c d (by decide) ⟨x, H, I.turned (t' := s.toks) (fun b o nb e => (sb.2 b nb).trans e) q0 q1 q3 q4 q5, ru, ⟨rfl, fun ys hy => by rw [I.list_inj hy hq]; exact hx⟩, st2, fun b hb => (hf b hb).1⟩⟩
  done := fun X hP hw hK hc i pins s σ H E I hf st hg => by
    subst hP hw hK
    obtain ⟨xs, hq, hx⟩ := hg
    obtain ⟨its, rv, p, hz⟩ := I.list hq
    obtain ⟨q0, q1, q2, q3, q4, q5⟩ := hf it (List.mem_singleton.mpr rfl)
    obtain ⟨pp, ⟨hh, vs, hd, h2⟩, hm⟩ := hc
    have nx : pp.1 ≠ it := q5 pp (List.mem_append_left _ hm)
    have hl := rv.length
    exact listEnd_hot (x1 := pp.1) ⟨hh, pp.2, vs, (I.pin pp (List.mem_append_left _ hm)).1, hd, h2⟩ nx st p.isList (by simp; omega) fun h2 eb => ⟨rfl, I.turned (t' := s.toks) (fun b o nb e => eb b o nb e) q0 q1 q3 q4 q5⟩
  self := fun _ _ _ _ _ st h => wpAny_pyIter_listiter st h
section
variable {X : Cx}
theorem piL_hot {tg l : Expr} {tl : TE} (hl : PE X l tl) : PIH X tg l (iList X.K tl) := by
  refine ⟨fun pins s σ H R I h => ?_⟩
  refine thn (hl.run pins s σ H _ I h) fun v s1 ⟨x, H1, I1, r1, a, e, ⟨xs, hq⟩, q⟩ => ?_
  subst e
  cases r1
  obtain ⟨its, rv, p, hz⟩ := I1.list hq
  refine wpAny_pyIter_list p.isList ?_
  refine ⟨s1.heap.objs.size, [s1.heap.objs.size], _, _, H1, rfl, I1.kept (t' := s1.toks) (fun b o e => Heap.get?_push_of_some _ e), turnL_hot a _, ⟨_, Heap.get?_push_size _ rfl, rfl, rfl⟩, fun b hb => ?_, q⟩
  cases List.mem_singleton.mp hb
  exact I1.fpOk (Nat.le_refl _) (I1.hok.fresh (Nat.le_refl _))
theorem pgTup_hot {es : List Expr} {kk : Nat} {t : TGs} {n : Nat} {pos : Pos} (hc : HotC X) (h : PGs X es t) (hn : (assignEach es X.env).length = n) (hst : (assignEach es X.env).findIdx? (·.1) = none) : PG X (.Tuple es kk pos) (gTup X.K n t) := by
  refine ⟨fun pins s σ H v u Q I r hw => ?_⟩
  obtain ⟨a, xs, e1, hq, hl, hw⟩ := hw
  subst e1
  cases r
  obtain ⟨its, rv, ht, hz⟩ := I.tuple hq
  obtain ⟨x1, hot⟩ := hc.at I
  refine unpack_hot hot ht (by simp [hn, ← hl, rv.length]) hst fun h2 hx => ?_
  exact h.run pins _ σ H xs _ Q (I.kept (t' := s.toks) fun b o e => hx b o (Nat.ne_of_lt (Heap.lt_size e)) e) (by simpa using rv) hw

/-! ### a comprehension's block there: what is pinned stays so -/
abbrev hblk (X : Cx) (s : Shared) (H : Hp) (scope : Scope) (cenv : Env) (fp : List Addr) : Cx := (X.blk s H scope cenv fp).tr X.pn (fun _ _ => False)
theorem hblk_start {pins : List (Addr × Obj)} {σ : L2.St} {H : Hp} {s : Shared} {scope : Scope} {own : List (Str × Nat)} {fp : List Addr} (I : Inv X pins σ H s) (ok : BlkOk X.N X.env.scope scope own) (hN : X.N.Nodup) (hfp : ∀ b ∈ fp, FpOk X pins H b ∧ b < s.heap.objs.size) :
    Inv (hblk X s H scope (compEnvC scope (cellsFrom (s.heap.objs.size + 1) scope.names (cloFrom X.env.cells scope.names [])) s.heap.objs.size X.env) fp) [] (wipe σ (own.map (·.2))) H
      { s with heap := pushCells (s.heap.push { cls := .type "dict", data := .dict #[] }) scope.names } := by
  have J := block_start I ok hN hfp
  refine ⟨J.ok.toTry _ _, J.os, J.bare, J.base, J.loc, J.cell, J.free, J.freeC, fun p hp => ?_, J.hok, J.len⟩
  have hp2 : p ∈ X.pn := by simpa using hp
  obtain ⟨e1, e2, e3, e4, e5⟩ := I.pin p (List.mem_append_left _ hp2)
  refine ⟨pushCells_keeps _ _ _ _ (Heap.get?_push_of_some _ e1), e2, Nat.ne_of_lt (Heap.lt_size e1), fun z => ?_, e5⟩
  rcases List.mem_cons.mp (I.stkSub _ z) with y | y
  · exact e3 y
  · exact e4 y
theorem hblk_hot (hc : HotC X) (s : Shared) (H : Hp) (scope : Scope) (cenv : Env) (fp : List Addr) : HotC (hblk X s H scope cenv fp) := hc
/-- [elt for tg in iter if ..] while an exception is handled -/
theorem lc_hot {pins : List (Addr × Obj)} {s : Shared} {σ : L2.St} {H : Hp} {Q : VK} {elt tg iter : Expr} {ifs : List Expr} {scope : Scope} {own : List (Str × Nat)} {pos pos2 : Pos} {wi : TI} {g : TG} {tt : TT} {te : TE} {use : Option (Value → Sem Unit)} {Qf : Value → Shared → Prop}
    (hc : HotC X) (hN : X.N.Nodup) (I : Inv X pins σ H s) (hi : PIH X tg iter wi) (ok : BlkOk X.N X.env.scope scope own)
    (hg : ∀ (s : Shared) (H : Hp) (C : Addr) (cl : List (Str × Addr)) (fp : List Addr), PG (hblk X s H scope (compEnvC scope cl C X.env) fp) tg g)
    (ht : ∀ (s : Shared) (H : Hp) (C : Addr) (cl : List (Str × Addr)) (fp : List Addr), PTs (hblk X s H scope (compEnvC scope cl C X.env) fp) ifs tt)
    (he : ∀ (s : Shared) (H : Hp) (C : Addr) (cl : List (Str × Addr)) (fp : List Addr), PE (hblk X s H scope (compEnvC scope cl C X.env) fp) elt te) (hs : ∀ x, foldedSetIterable iter X.env x = pure x)
    (h : tLc wi g tt te (own.map (·.2)) σ H Q)
    (hR : ∀ L C s2 m H2, Inv X pins σ H2 s2 → Q (.ref L) H2 → s2.heap.Ns C m → FpOk X pins H2 C → compPost (model X.prog X.w) X.A X.xe use Qf (.ref L) C (.ok .next) s2) :
    wpAny (model X.prog X.w) X.A (comprehension (.ListComp elt [⟨tg, iter, ifs, 0⟩] scope pos) scope X.env pos2 (newList []) false (eval iter X.env) use) Qf X.xe s := by
  have has : ∀ y ∈ scope.names, y.2 = .free → ∃ c, X.env.cells.lookup y.1 = some c := fun y hy e => (ok.free y hy e).elim (fun z => I.ok.has _ (.inl z)) fun z => I.ok.has _ (.inr z)
  refine wpAny_comprehension_free (use := use) rfl hs (closure_ok has) ok.kind (fun y hy e => by rw [ok.uniq y hy, e]) (thn (hi.run pins s σ H _ I h) fun xv s1 hx => thn hx fun itv s2 hh => ?_)
  obtain ⟨it, fp, tn, J, H2, rfl, I2, T, st2, f2, q⟩ := hh
  refine wpAny_newObj_type (newEnv_comp ?_) (by show 0 ≤ sizeLine; decide)
  obtain ⟨L, hL⟩ : ∃ L, L = s2.heap.objs.size := ⟨_, rfl⟩
  rw [← hL]
  have nL : H2 L = none := I2.hok.fresh (Nat.le_of_eq hL.symm)
  obtain ⟨V, ⟨m0, v0⟩, turn⟩ := q L nL
  obtain ⟨sa, esa⟩ : ∃ sa : Shared, sa = { s2 with heap := s2.heap.push { cls := .type "list", data := .seq ([] : List Value).toArray } } := ⟨_, rfl⟩
  have ha : sa.heap = s2.heap.push { cls := .type "list", data := .seq ([] : List Value).toArray } := by rw [esa]
  have Ia : Inv X pins σ (upd H2 L (.lst [])) sa := by
    rw [esa]
    refine I2.laid (t' := s2.toks) (fun b o e => Heap.get?_push_of_some _ e) (Nat.le_of_eq hL.symm) ⟨Nat.zero_le _, [], 0, .nil, ?_⟩
    rw [hL]
    exact Heap.get?_push_size _ rfl
  have lt2 : ∀ b ∈ fp, b < s2.heap.objs.size := fun b hb => (T.obj _ _ st2 b hb).elim fun o z => Heap.lt_size z.1
  have fa : ∀ b ∈ fp, FpOk X pins (upd H2 L (.lst [])) b ∧ b < sa.heap.objs.size := fun b hb => by
    refine ⟨⟨?_, (f2 b hb).2⟩, by rw [ha, Heap.size_push]; exact Nat.lt_succ_of_lt (lt2 b hb)⟩
    rw [upd_ne (by rw [hL]; exact Nat.ne_of_lt (lt2 b hb))]
    exact (f2 b hb).1
  have sta : tn 0 sa.heap := T.keep _ _ _ st2 fun b _ o e => by rw [ha]; exact Heap.get?_push_of_some _ e
  have Ib := hblk_start Ia ok hN fa
  obtain ⟨Ha, eHa⟩ : ∃ Ha, Ha = upd H2 L (.lst []) := ⟨_, rfl⟩
  rw [← eHa] at Ia Ib fa v0
  rw [← esa]
  obtain ⟨ce, ece⟩ : ∃ ce, ce = compEnvC scope (cellsFrom (sa.heap.objs.size + 1) scope.names (cloFrom X.env.cells scope.names [])) sa.heap.objs.size X.env := ⟨_, rfl⟩
  have pg := hg sa Ha sa.heap.objs.size (cellsFrom (sa.heap.objs.size + 1) scope.names (cloFrom X.env.cells scope.names [])) fp
  have pt := ht sa Ha sa.heap.objs.size (cellsFrom (sa.heap.objs.size + 1) scope.names (cloFrom X.env.cells scope.names [])) fp
  have pe := he sa Ha sa.heap.objs.size (cellsFrom (sa.heap.objs.size + 1) scope.names (cloFrom X.env.cells scope.names [])) fp
  rw [← ece] at Ib pg pt pe
  have cL : ce.locals = sa.heap.objs.size := by rw [ece]; rfl
  show codeAny _ _ (.compStart (.ListComp elt [⟨tg, iter, ifs, 0⟩] scope pos) 0 (.ref it) (.ref L) (compEnvC scope (cellsFrom (sa.heap.objs.size + 1) scope.names (cloFrom X.env.cells scope.names [])) sa.heap.objs.size X.env))
    (compPost (model X.prog X.w) X.A X.xe use Qf (.ref L) sa.heap.objs.size) { sa with heap := pushCells (sa.heap.push { cls := .type "dict", data := .dict #[] }) scope.names }
  rw [← ece]
  obtain ⟨sb, esb⟩ : ∃ sb : Shared, sb = { sa with heap := pushCells (sa.heap.push { cls := .type "dict", data := .dict #[] }) scope.names } := ⟨_, rfl⟩
  rw [← esb] at Ib ⊢
  have stb : tn 0 sb.heap := T.keep _ _ _ sta fun b _ o e => by rw [esb]; exact pushCells_keeps _ _ _ _ (Heap.get?_push_of_some _ e)
  have hotB := hblk_hot hc sa Ha scope ce fp
  have fpB : ∀ {σ2 : L2.St} {H3 : Hp} {s3 : Shared}, Inv (hblk X sa Ha scope ce fp) [] σ2 H3 s3 → (∀ b ∈ fp, H3 b = none) → ∀ b ∈ fp, FpOk (hblk X sa Ha scope ce fp) [] H3 b := fun {σ2 H3 s3} I3 hn b hb =>
    ⟨hn b hb, (I3.ok.exf b hb).1, I3.ok.exfs b hb, .inl hb, fun x c e => (I3.ok.exf b hb).2 x c e, fun p hp => (fa b hb).1.2.2.2.2.2 p (List.mem_append_left _ (by simpa using hp))⟩
  refine codeAny_compStart_list ?_ (T.self X.A 0 _ _ _ stb ?_)
  all_goals
    refine compLoop_any (fun n s3 => ∃ i H3, Inv (hblk X sa Ha scope ce fp) [] (wipe σ (own.map (·.2))) H3 s3 ∧ tn i s3.heap ∧ (∀ b ∈ fp, H3 b = none) ∧ V i n H3) ?_ m0 ⟨0, Ha, Ib, stb, fun b hb => (fa b hb).1.1, v0⟩
    rintro n s5 ⟨i, H5, I5, st5, n5, v5⟩
    rcases turn i n H5 v5 with ⟨stop, qq⟩ | ⟨go, Nx, hNx, step⟩
    · refine thnF (T.done (hblk X sa Ha scope ce fp) rfl rfl rfl hotB i [] s5 _ H5 (fun _ _ => False) I5 (fpB I5 n5) st5 stop) fun r s6 ⟨hr, I6⟩ => ?_
      subst hr
      have Iz : Inv X pins σ H5 s6 := Ia.call' (ch := fp) I6.os I6.base I6.hok I6.bare fun b hb => ⟨(fa b hb).1.2.2.2.1, (fa b hb).1.2.1, (fa b hb).1.2.2.2.2.1, (fa b hb).1.2.2.2.2.2⟩
      obtain ⟨m, hn, _⟩ := I6.loc
      have hn2 : s6.heap.Ns sa.heap.objs.size m := cL ▸ hn
      have nC : H5 sa.heap.objs.size = none := cL ▸ I6.free
      exact hR L sa.heap.objs.size s6 m H5 Iz qq hn2 (Ia.fpOk (Nat.le_refl _) nC)
    · refine thnF (T.item (hblk X sa Ha scope ce fp) rfl rfl rfl hotB i [] s5 _ H5 (fun _ _ => False) I5 (fpB I5 n5) st5 go) fun r s6 ⟨u, hr, h6⟩ => ?_
      subst hr
      refine thnF h6 fun _ s7 ⟨x, H7, I7, r7, y7, st7, n7⟩ => ?_
      refine thnF (pg.run _ s7 _ H7 x u _ (I7.pinned (fpB I7 n7) (T.obj _ _ st7)) r7 (step x H7 y7)) fun _ s8 ⟨σ8, H8, I8, hw8, q8⟩ => ?_
      refine thnF (pt.run _ s8 σ8 H8 _ I8 q8) fun b s9 ⟨H9, I9, q9⟩ => ?_
      have again : ∀ {s3 : Shared} {H3 : Hp}, Inv (hblk X sa Ha scope ce fp) ([] ++ pinsAt fp s7.heap) σ8 H3 s3 → Nx H3 → ∃ m, m < n ∧ ∃ i H4, Inv (hblk X sa Ha scope ce fp) [] (wipe σ (own.map (·.2))) H4 s3 ∧ tn i s3.heap ∧ (∀ b ∈ fp, H4 b = none) ∧ V i m H4 := fun {s3 H3} I3 nx => by
        obtain ⟨m2, hm, v2⟩ := hNx H3 nx
        have kept : ∀ b ∈ fp, ∀ o, s7.heap.get? b = some o → s3.heap.get? b = some o ∧ H3 b = none := fun b hb o e =>
          let z := I3.pin (b, o) (List.mem_append_right _ (List.mem_append_right _ (mem_pinsAt hb e)))
          ⟨z.1, z.2.1⟩
        refine ⟨m2, hm, i + 1, H3, (I3.unpinned (pins := [])).weak (by rw [← hw8, wipe_length]) (fun j v e => ?_), T.keep _ _ _ st7 fun b hb o e => (kept b hb o e).1, fun b hb => ?_, v2⟩
        · rw [← hw8] at e
          exact (wipe_some e).1
        · obtain ⟨o, e, _⟩ := T.obj _ _ st7 b hb
          exact (kept b hb o e).2
      cases b with
      | false =>
        simp only [Bool.false_eq_true, if_false] at q9 ⊢
        exact again I9 q9
      | true =>
        simp only [if_true] at q9 ⊢
        refine thnF (pe.run _ s9 σ8 H9 _ I9 q9) fun z s10 ⟨yv, H10, I10, r10, acc, hD, hz, nx⟩ => ?_
        exact app_ok (X := hblk X sa Ha scope ce fp) I10 hD hz r10 fun s11 I11 => again I11 nx
variable {elt tg iter : Expr} {ifs : List Expr} {scope : Scope} {own : List (Str × Nat)} {pos spos : Pos} {wi : TI} {g : TG} {tt : TT} {te : TE}
theorem peLc_hot (hc : HotC X) (hN : X.N.Nodup) (hi : PIH X tg iter wi) (ok : BlkOk X.N X.env.scope scope own)
    (hg : ∀ (s : Shared) (H : Hp) (C : Addr) (cl : List (Str × Addr)) (fp : List Addr), PG (hblk X s H scope (compEnvC scope cl C X.env) fp) tg g)
    (ht : ∀ (s : Shared) (H : Hp) (C : Addr) (cl : List (Str × Addr)) (fp : List Addr), PTs (hblk X s H scope (compEnvC scope cl C X.env) fp) ifs tt)
    (he : ∀ (s : Shared) (H : Hp) (C : Addr) (cl : List (Str × Addr)) (fp : List Addr), PE (hblk X s H scope (compEnvC scope cl C X.env) fp) elt te) (hs : ∀ x, foldedSetIterable iter X.env x = pure x) :
    PE X (.ListComp elt [⟨tg, iter, ifs, 0⟩] scope pos) (tLc wi g tt te (own.map (·.2))) := by
  refine ⟨fun pins s σ H Q I h => ?_⟩
  rw [eval_ListComp]
  refine lc_hot hc hN I hi ok hg ht he hs h fun L C s2 m H2 I2 q hn f => ⟨m, hn, fun h3 sb => ?_⟩
  obtain ⟨f0, f1, f2, f3, f4, f5⟩ := f
  exact ⟨.ref L, H2, I2.turned (t' := s2.toks) (fun b o nb e => (sb.2 b nb).trans e) f0 f1 f3 f4 f5, rfl, q⟩
theorem psLc_hot {i : Nat} {y : Str} {py : Pos} (hc : HotC X) (hN : X.N.Nodup) (hy : X.N[i]? = some y) (hyl : X.env.scope.names.lookup y = some .local) (hsw : swapsWith (.ListComp elt [⟨tg, iter, ifs, 0⟩] scope pos) (some (.Name y py)) spos.line X.env = pure true)
    (hi : PIH X tg iter wi) (ok : BlkOk X.N X.env.scope scope own)
    (hg : ∀ (s : Shared) (H : Hp) (C : Addr) (cl : List (Str × Addr)) (fp : List Addr), PG (hblk X s H scope (compEnvC scope cl C X.env) fp) tg g)
    (ht : ∀ (s : Shared) (H : Hp) (C : Addr) (cl : List (Str × Addr)) (fp : List Addr), PTs (hblk X s H scope (compEnvC scope cl C X.env) fp) ifs tt)
    (he : ∀ (s : Shared) (H : Hp) (C : Addr) (cl : List (Str × Addr)) (fp : List Addr), PE (hblk X s H scope (compEnvC scope cl C X.env) fp) elt te) (hs : ∀ x, foldedSetIterable iter X.env x = pure x) :
    PS X (.Assign [.Name y py] (.ListComp elt [⟨tg, iter, ifs, 0⟩] scope pos) spos) (tAsg (tLc wi g tt te (own.map (·.2))) (gName i)) := by
  refine ⟨fun pins s σ H D I h => ?_⟩
  rw [exec_Assign_Name_used _ _ _ _ hsw]
  refine wpAny_bind (wpAny_standAt (wpAny_bind ?_))
  show wpAny _ X.A (comprehension (.ListComp elt [⟨tg, iter, ifs, 0⟩] scope pos) scope X.env (firstIterPos [⟨tg, iter, ifs, 0⟩] pos) (newList []) false (eval iter X.env) (some (assign (.Name y py) X.env)) >>= fun _ => _) _ _ s
  have h' : tLc wi g tt te (own.map (·.2)) σ H (fun x H1 => gName i x σ H1 D.nx) := h
  refine wpAny_bind (thn (lc_hot (Qf := fun _ s2 => SP X pins D .next s2) hc hN I hi ok hg ht he hs h' fun L C s2 m H2 I2 q hn f => ?_) fun _ s2 hq => wpAny_pure (wpAny_pure hq))
  obtain ⟨f0, f1, f2, f3, f4, f5⟩ := f
  show wpAny _ _ (assign (.Name y py) X.env (.ref L)) _ _ _
  refine wpAny_assign_Name (store_ok2 (v := V.ref L) I2 hN hy (.inl hyl) rfl (fun s3 I3 ⟨a, sb, ha⟩ => ?_) (.inr hyl))
  refine ⟨m, hn.sameBut sb fun e => ?_, fun h3 sb3 => ⟨_, H2, I3.turned (t' := s3.toks) (fun b o nb e => (sb3.2 b nb).trans e) f0 f1 f3 f4 f5, q⟩⟩
  rcases ha with z | z
  · exact f1 (e.trans z)
  · exact f4 y a z e.symm
end
end PL
/-! PL, part t: the rules within an except suite. -/
namespace PL
open PySem PySem.Spec PyProof.Rows L2 L2H HotX
/-- what a suite's rules ask of the context -/
structure CH (M : Fr) (X : Cx) : Prop where
  hK : X.K = M.F.K
  nd : X.N.Nodup
  hot : HotC X
  un : X.A.units + 64 < cLine
section
variable {M : Fr} {W : WX} {X : Cx} {pos : Pos}
theorem CH.blk (c : CH M X) (s : Shared) (H : Hp) (scope : Scope) (env : Env) (fp : List Addr) : CH M (hblk X s H scope env fp) := ⟨c.hK, c.nd, c.hot, c.un⟩
def PItH (M : Fr) (W : WX) (X : Cx) (tg it : Expr) (f : Ev → Res (List D × Ev)) : Prop := ∃ wi, PIH X tg it wi ∧ Tr M W (fun G ds J => ItOk M.F J G ds) wi f
@[reducible, simp] def dSeqL : D → Res (List D)
  | .lst ds => .ok ds
  | _ => .stuck
@[reducible, simp] def iSeqL (f : Ev → Res (D × Ev)) : Ev → Res (List D × Ev) := fun ε => (f ε).bind fun p => (dSeqL p.1).bind fun ds => .ok (ds, p.2)
theorem pitH_seq {tg e : Expr} {f : Ev → Res (D × Ev)} (ha : PV M W X e f) : PItH M W X tg e (iSeqL f) := by
  obtain ⟨t, et, q⟩ := ha
  refine ⟨_, piL_hot et, fun σ G H ε s Q hp => q σ G H ε s _ ?_⟩
  cases e1 : f ε with
  | stuck => simp only [iSeqL, e1] at hp; exact hp.elim
  | err cc => simp only [iSeqL, e1] at hp; exact hp
  | ok p =>
    obtain ⟨d, ε1⟩ := p
    cases d with
    | lst ds =>
      simp only [iSeqL, e1, Res.bind_ok, dSeqL] at hp
      intro v G1 H1 s1 st1 r
      obtain ⟨a, vs, rfl, ha, l⟩ := rp_lst.mp r
      refine ⟨a, rfl, ⟨vs, SqL.of (s1.sub _ _ ha)⟩, hp _ G1 H1 s1 st1 ?_⟩
      intro i G2 H2 s2 g2
      have hs : SqL X.K H2 a vs := SqL.of (s2.sub _ _ (g2 _ _ ha))
      refine ⟨fun d e => ?_, fun e => ⟨vs, hs, by rw [← l.length]; exact e⟩⟩
      obtain ⟨v, e1, r⟩ := l.get e
      refine ⟨⟨vs, v, hs, e1⟩, fun x H' y => ?_⟩
      obtain ⟨rfl, y⟩ := y
      have ex := y vs hs
      rw [e1] at ex
      cases ex
      exact ⟨G2, Grow.refl _ _, s2, r.mono g2⟩
    | _ => simp only [iSeqL, e1, Res.bind_ok, dSeqL] at hp; exact hp.elim
theorem ptgH_tup (c : CH M X) {es : List Expr} {kk : Nat} {f2 : List D → Ev → Res Ev} {is : List Nat} (h : PTgs M X es f2 is) (hn : (assignEach es X.env).length = es.length := by rfl) (hst : (assignEach es X.env).findIdx? (·.1) = none := by rfl) : PTg M X (.Tuple es kk pos) (tTupD f2) is := by
  obtain ⟨g, p, q, l⟩ := h
  refine ⟨_, pgTup_hot c.hot p hn hst, fun d v σ G H ε ε' s r h Q hq => ?_⟩
  cases d with
  | tup ds =>
    obtain ⟨a, vs, rfl, ha, rl⟩ := rp_tup.mp r
    refine ⟨a, vs, rfl, by rw [c.hK]; exact sqT_mono s.sub ha, ?_, q ds vs σ G H ε ε' s rl h Q hq⟩
    rw [← rl.length]
    exact l ds ε ε' h
  | _ => cases h
section
variable {elt tg iter : Expr} {ifs : List Expr} {scope : Scope} {own : List (Str × Nat)} {spos py : Pos} {src : Ev → Res (List D × Ev)} {tgt : D → Ev → Res Ev} {is : List Nat} {ft : Ev → Res (Bool × Ev)} {fe : Ev → Res (D × Ev)}
theorem pnH_lc (c : CH M X) (hi : PItH M W X tg iter src) (ok : blkC X.N X.env.scope scope own = true)
    (hg : ∀ (s : Shared) (H : Hp) (C : Addr) (cl : List (Str × Addr)) (fp : List Addr), CH M (hblk X s H scope (compEnvC scope cl C X.env) fp) → PTg M (hblk X s H scope (compEnvC scope cl C X.env) fp) tg tgt is)
    (ht : ∀ (s : Shared) (H : Hp) (C : Addr) (cl : List (Str × Addr)) (fp : List Addr), CH M (hblk X s H scope (compEnvC scope cl C X.env) fp) → PTs' M W0 (hblk X s H scope (compEnvC scope cl C X.env) fp) ifs ft)
    (he : ∀ (s : Shared) (H : Hp) (C : Addr) (cl : List (Str × Addr)) (fp : List Addr), CH M (hblk X s H scope (compEnvC scope cl C X.env) fp) → PV M W0 (hblk X s H scope (compEnvC scope cl C X.env) fp) elt fe)
    (hc : M.cp = none ∨ 0 ∉ own.map (·.2)) (his : ∀ i ∈ is, i ∈ own.map (·.2)) (hs : ∀ x, foldedSetIterable iter X.env x = pure x := by intro _; rfl) :
    PN M W X (.ListComp elt [⟨tg, iter, ifs, 0⟩] scope pos) (eComp (own.map (·.2)) src tgt ft fe) := by
  obtain ⟨wi, ei, qi⟩ := hi
  exact ⟨_, peLc_hot c.hot c.nd ei (blkOk_by ok) (fun s H C cl fp => (hg s H C cl fp (c.blk ..)).pg) (fun s H C cl fp => ht s H C cl fp (c.blk ..)) (fun s H C cl fp => (he s H C cl fp (c.blk ..)).pe) hs, tr_lc qi hc his⟩
theorem psH_setLc (c : CH M X) {i : Nat} {y : Str} (hi : PItH M W X tg iter src) (ok : blkC X.N X.env.scope scope own = true)
    (hg : ∀ (s : Shared) (H : Hp) (C : Addr) (cl : List (Str × Addr)) (fp : List Addr), CH M (hblk X s H scope (compEnvC scope cl C X.env) fp) → PTg M (hblk X s H scope (compEnvC scope cl C X.env) fp) tg tgt is)
    (ht : ∀ (s : Shared) (H : Hp) (C : Addr) (cl : List (Str × Addr)) (fp : List Addr), CH M (hblk X s H scope (compEnvC scope cl C X.env) fp) → PTs' M W0 (hblk X s H scope (compEnvC scope cl C X.env) fp) ifs ft)
    (he : ∀ (s : Shared) (H : Hp) (C : Addr) (cl : List (Str × Addr)) (fp : List Addr), CH M (hblk X s H scope (compEnvC scope cl C X.env) fp) → PV M W0 (hblk X s H scope (compEnvC scope cl C X.env) fp) elt fe)
    (hcc : M.cp = none ∨ 0 ∉ own.map (·.2)) (his : ∀ i ∈ is, i ∈ own.map (·.2)) (hc : M.cp = none ∨ i ≠ 0) (hy : X.N[i]? = some y := by rfl) (hyl : X.env.scope.names.lookup y = some .local := by rfl)
    (hsw : swapsWith (.ListComp elt [⟨tg, iter, ifs, 0⟩] scope pos) (some (.Name y py)) spos.line X.env = pure true := by exact sw_true rfl rfl rfl (by decide +kernel)) (hs : ∀ x, foldedSetIterable iter X.env x = pure x := by intro _; rfl) :
    PS' M W X (.Assign [.Name y py] (.ListComp elt [⟨tg, iter, ifs, 0⟩] scope pos) spos) (sTg (tName i) (eL (eComp (own.map (·.2)) src tgt ft fe))) := by
  obtain ⟨wi, ei, qi⟩ := hi
  exact ⟨_, psLc_hot c.hot c.nd hy hyl hsw ei (blkOk_by ok) (fun s H C cl fp => (hg s H C cl fp (c.blk ..)).pg) (fun s H C cl fp => ht s H C cl fp (c.blk ..)) (fun s H C cl fp => (he s H C cl fp (c.blk ..)).pe) hs, trS_setName (tr_lc qi hcc his).tr hc⟩
end
section
variable {a b e : Expr} {fa fb fe : Ev → Res (D × Ev)}
theorem pvH_add (c : CH M X) (ha : PV M W X a fa) (hb : PV M W X b fb) : PV M W X (.BinOp a .Add b pos) (eOp dAdd fa fb) := by
  obtain ⟨ta, ea, qa⟩ := ha
  obtain ⟨tb, eb, qb⟩ := hb
  exact ⟨_, pe_op (r := rAddAll M.F.K) (by rw [← c.hK]; exact op_addAll) ea eb, tr_op opH_add.opT qa qb⟩
theorem pnH_add (c : CH M X) (ha : PV M W X a fa) (hb : PV M W X b fb) : PN M W X (.BinOp a .Add b pos) (eOpN dCat fa fb) := by
  obtain ⟨ta, ea, qa⟩ := ha
  obtain ⟨tb, eb, qb⟩ := hb
  exact ⟨_, pe_op (r := rAddAll M.F.K) (by rw [← c.hK]; exact op_addAll) ea eb, trN_op opN_cat qa qb⟩
theorem cmH_eq (c : CH M X) : CmpR M W X .Eq dEq := ⟨_, by rw [← c.hK]; exact op_eqD c.un, opH_eq.opT⟩
theorem cmH_ne (c : CH M X) : CmpR M W X .NotEq dNe := ⟨_, by rw [← c.hK]; exact op_neD c.un, opH_ne.opT⟩
theorem psH_set (c : CH M X) {i : Nat} {x : Str} {pos' : Pos} (he : PV M W X e fe) (hc : M.cp = none ∨ i ≠ 0) (hi : X.N[i]? = some x := by rfl) (hx : Loc X.env.scope x := by first | exact Or.inl rfl | exact Or.inr rfl)
    (hs : swapsWith e (some (.Name x pos')) pos.line X.env = pure false := by rfl) (hf : X.fn x = true ∨ X.env.scope.names.lookup x = some .local := by first | exact .inl rfl | exact .inr rfl | assumption) :
    PS' M W X (.Assign [.Name x pos'] e pos) (sTg (tName i) fe) := by
  obtain ⟨t, et, qt⟩ := he
  exact ⟨_, ps_set c.nd hi hx et hs hf, trS_setName qt hc⟩
theorem psH_own (c : CH M X) {i : Nat} {x : Str} {pos' : Pos} {fn : Ev → Res (List D × Ev)} (he : PN M W X e fn) (hc : M.cp = none ∨ i ≠ 0) (hi : X.N[i]? = some x := by rfl) (hx : Loc X.env.scope x := by first | exact Or.inl rfl | exact Or.inr rfl)
    (hs : swapsWith e (some (.Name x pos')) pos.line X.env = pure false := by rfl) (hf : X.fn x = true ∨ X.env.scope.names.lookup x = some .local := by first | exact .inl rfl | exact .inr rfl | assumption) :
    PS' M W X (.Assign [.Name x pos'] e pos) (sOwn i fn) := by
  obtain ⟨t, et, qt⟩ := he
  exact ⟨_, ps_set c.nd hi hx et hs hf, trS_setOwn qt hc⟩
/-! sep.join(words) -/
@[simp] def strsOf : List D → Option (List Str)
  | [] => some []
  | .str x :: r => (strsOf r).bind fun ys => some (x :: ys)
  | _ => none
def dJoin : D → D → Res D
  | .str a, .lst ds => match strsOf ds with
    | some ys => if (ys.map (·.length)).sum + ys.length * a.length ≤ 16777216 then .ok (.str (Txt.join a ys)) else .stuck
    | none => .stuck
  | _, _ => .stuck
@[reducible, simp] def isS (d : D) : Res D := match d with
  | .str a => .ok (.str a)
  | _ => .stuck
@[reducible, simp] def eJoin (fa fe : Ev → Res (D × Ev)) : Ev → Res (D × Ev) := fun ε => (fa ε).bind fun p => (isS p.1).bind fun _ => (fe p.2).bind fun q => (dJoin p.1 q.1).bind fun d => .ok (d, q.2)
theorem strsOf_rp {F : Fx} {G : Hp} : ∀ {ds : List D} {ys : List Str} {vs : List V}, strsOf ds = some ys → RpL F G ds vs → vs = ys.map V.str
  | [], ys, vs, e, r => by
    simp only [strsOf, Option.some.injEq] at e
    subst e
    exact r.of_nil
  | d :: ds, ys, vs, e, r => by
    obtain ⟨v, ws, rfl, rd, rl⟩ := r.of_cons
    cases d with
    | str x =>
      simp only [strsOf] at e
      cases e1 : strsOf ds with
      | none => rw [e1] at e; cases e
      | some zs =>
        rw [e1] at e
        simp only [Option.bind_some, Option.some.injEq] at e
        subst e
        rw [rp_str.mp rd, strsOf_rp e1 rl]
        rfl
    | _ => simp only [strsOf] at e; cases e
theorem pv_join (hK : X.K = M.F.K) {apos : Pos} (ho : PV M W X a fa) (he : PV M W X e fe) (hs : starEach [e] X.env = [(false, eval e X.env)] := by rfl) (hbase : attributeBase a "join" X.env (eval a X.env) = eval a X.env := by rfl) (hline : (apos.endLine == pos.line) = true := by rfl) :
    PV M W X (.Call (.Attribute a "join" apos) [e] [] pos) (eJoin fa fe) := by
  obtain ⟨ta, ea, qa⟩ := ho
  obtain ⟨te, ee, qe⟩ := he
  refine ⟨_, pe_join ea ee hs hbase hline, ?_⟩
  intro σ0 G0 H0 ε0 s0 Q hp0
  refine qa σ0 G0 H0 ε0 s0 _ ?_
  simp only [eJoin] at hp0
  cases e0 : fa ε0 with
  | stuck => rw [e0] at hp0; exact hp0
  | err cc => rw [e0] at hp0; exact hp0
  | ok q0 =>
  rw [e0] at hp0
  intro v G H s st0 rx
  obtain ⟨x, ε⟩ := q0
  cases x with
  | str sx =>
    have hp : Post M W σ0 G H ε (Rp M.F) ((fe ε).bind fun q => (dJoin (.str sx) q.1).bind fun d => .ok (d, q.2)) Q := Post.shift s st0 hp0
    rw [rp_str] at rx
    subst rx
    refine ⟨⟨sx, rfl⟩, qe σ0 G H ε s _ ?_⟩
    cases e1 : fe ε with
    | stuck => rw [e1] at hp; exact hp
    | err cc => rw [e1] at hp; exact hp
    | ok q =>
      rw [e1] at hp
      intro w G1 H1 s1 st1 ry
      have hp1 : Post M W σ0 G1 H1 q.2 (Rp M.F) ((dJoin (.str sx) q.1).bind fun d => .ok (d, q.2)) Q := Post.shift s1 st1 hp
      cases hq : q.1 with
      | lst ds =>
        rw [hq] at ry hp1
        cases h2 : strsOf ds with
        | none => simp only [dJoin, h2] at hp1; exact hp1.elim
        | some ys =>
          simp only [dJoin, h2] at hp1
          split at hp1
          · rename_i hz
            obtain ⟨p, vs, rfl, hp', rl⟩ := rp_lst.mp ry
            have ev := strsOf_rp h2 rl
            subst ev
            exact ⟨sx, p, ys, rfl, rfl, .inl (SqL.of (s1.sub _ _ hp')), hz, hp1 _ G1 H1 s1 (Step.refl ..) (rp_str.mpr rfl)⟩
          · exact hp1.elim
      | _ => rw [hq] at hp1; simp only [dJoin] at hp1; exact hp1.elim
  | _ => exact hp0.elim
end
end
/-! isinstance(e, C), e what is handled: its slot says `.fn 0`, its address is the frame's fa 0 -/
@[reducible, simp] def eIsE (i : Nat) (b : Bool) : Ev → Res (D × Ev) := fun ε => match ε[i]? with
  | some (.pu (.fn 0)) => .ok (.bl b, ε)
  | _ => .stuck
theorem pvH_isE {F : Fx} {cp : Option Addr} {W : WX} {X : Cx} {a Dc Cc : Addr} {oe : Obj} {pn : List (Addr × Obj)} {i : Nat} {b : Bool} {en cn : Str} {p p1 p2 pos : Pos} (hfa : F.fa 0 = a) (C : ExcC X.K Dc) (hz : L2N.Zn (.ref Dc) none oe) (hd : ∃ vs, oe.data = .fields vs)
    (hk : PySem.W.kitOne X.K (.ref Dc) (.ref Cc) = some b) (hm0 : X.mg "isinstance" = none) (hmC : X.mg cn = some (.ref Cc)) (hg0 : Gl X "isinstance" := by rfl) (hgC : Gl X cn := by rfl) (hN : X.N[i]? = some en := by rfl) (hv : Vis X.env.scope en := by first | exact Or.inl rfl | exact Or.inr (Or.inl rfl) | exact Or.inr (Or.inr rfl))
    (h1 : (en == ("__debug__" : Str)) = false := by decide) (h2 : (en == ("__classdict__" : Str)) = false := by decide) (h3 : (cn == ("__debug__" : Str)) = false := by decide) :
    PV ⟨F, cp⟩ W (X.suite a ((a, oe) :: pn)) (.Call (.Name "isinstance" p) [.Name en p1, .Name cn p2] [] pos) (eIsE i b) := by
  have eE : PE (X.suite a ((a, oe) :: pn)) (.Name en p1) (tVar i) := pe_var (X := X.suite a ((a, oe) :: pn)) hN hv h1 h2
  have eC : PE (X.suite a ((a, oe) :: pn)) (.Name cn p2) (tC (.ref Cc)) := pe_glob (X := X.suite a ((a, oe) :: pn)) (u := .ref Cc) hgC hmC rfl h3
  refine ⟨_, pe_callB (call_isE (X := X) C hz.zc hd) hg0 hm0 (by decide +kernel) (L2.pa_cons eE (L2.pa_cons eC L2.pa_nil)), fun σ G H ε s Q hp => ?_⟩
  simp only [eIsE] at hp
  cases e1 : ε[i]? with
  | none => rw [e1] at hp; exact hp.elim
  | some x =>
    rw [e1] at hp
    cases x with
    | em => exact hp.elim
    | ow ds => exact hp.elim
    | pu d =>
      cases d with
      | fn k =>
        cases k with
        | zero =>
          obtain ⟨v, e2, r⟩ := s.pu e1
          simp only [Rp] at r
          subst r
          refine ⟨_, e2, ?_⟩
          exact ⟨.ref Cc, .ref Cc, b, by rw [hfa], fun u r => r, hk, hp _ G H s (Step.refl ..) (rp_bl.mpr rfl)⟩
        | succ k => exact hp.elim
      | _ => exact hp.elim
end PL
/-! PL, part u: a lambda without parameters handed to a def that tries it. -/
namespace PL
open PySem PySem.Spec PyProof.Rows L2 LamX
section
variable {X : Cx} {pins : List (Addr × Obj)} {σ : L2.St} {H HZ : Hp} {s s1 : Shared}
/-- the name of X's lambdas -/
abbrev lamQ (X : Cx) : Str := X.env.qual ++ "<lambda>"
theorem lam_new {T : List (Addr × Str)} {cc P : Addr} {params : Arguments} {body : Expr} {scope : Scope} {pos : Pos} {E : Value → Shared → Prop} {R : Value → Shared → Prop} (I : Inv X pins σ H s) (TB : TabB X.base X.mg cc P) (hcode : X.env.code = .ref cc)
    (hm : (P, lamQ X) ∈ T) (hu : ∀ p ∈ T, p.1 = P → p.2 = lamQ X) (tabs : Tabs T H) (hdef : defaultsOf params X.env = ([], [])) (hfree : ∀ y ∈ scope.names, y.2 = .free → ∃ c, X.env.cells.lookup y.1 = some c)
    (h : ∀ (f c1 : Addr) (pm ctv : Value) (H1 : Hp) (s2 : Shared), Inv X pins σ H1 s2 → ExtN H H1 → (∀ q, H1 q = none → H q = none) → Tabs T H1 →
      s2.heap.get? f = some (PySem.W.kla_obj "<lambda>" (lamQ X) params body scope (cloFrom X.env.cells scope.names []) pm c1 ctv) → H1 f = none → f ∉ frs X.stack → H1 c1 = some (CodeO c1 (lamQ X)) → R (.ref f) s2) :
    wpAny (model X.prog X.w) X.A (eval (.Lambda params body scope pos) X.env) R E s := by
  obtain ⟨ts, atP, okT, amT⟩ := tabs _ hm
  have bP : s.heap.BuiltinsAt X.mg P := TB.bm.keeps I.bk
  have gP := I.hok P _ atP
  have young : ∀ f, s.heap.objs.size ≤ f → f ∉ frs X.stack := fun f hf z => (List.mem_cons.mp (I.stkSub _ z)).elim (fun e => Nat.lt_irrefl _ (Nat.lt_of_lt_of_le (e ▸ I.lt) hf)) fun e => I.nofs hf e
  refine PySem.W.kla_eval hdef ?_
  cases e0 : codeAmong pos ts.toList with
  | some cv =>
    obtain ⟨c1, rfl, hco⟩ := amT pos cv e0
    refine PySem.W.kla_makeFunctionHit (mg := X.mg) (c := cc) (P := P) (ps := ts) (closure_ok hfree) I.ok.glob (I.mod.glob.keeps I.bk) hcode (TB.code.keeps I.bk) gP okT e0 bP fun ctv h2 tk hx hsz => ?_
    exact h h2.objs.size c1 ((X.mg "__name__").getD .none) ctv H { s with heap := _, toks := tk } (I.kept fun b o e => Heap.get?_push_of_some _ (hx b o e)) (ExtN.refl H) (fun _ z => z) tabs (Heap.get?_push_size _ rfl) (I.hok.fresh hsz) (young _ hsz) hco
  | none =>
    refine PySem.W.kla_makeFunction (mg := X.mg) (c := cc) (P := P) (ps := ts) (closure_ok hfree) I.ok.glob (I.mod.glob.keeps I.bk) hcode (TB.code.keeps I.bk) gP okT e0 TB.gP bP fun c1 ctv h2 tk hx hge hlt hrec htb => ?_
    obtain ⟨c2, oc, vs, t, e2, hoc, hd, hv⟩ := hrec
    cases e2
    have big : s.heap.objs.size ≤ h2.objs.size := Nat.le_trans hge (Nat.le_of_lt hlt)
    have nC : H c1 = none := I.hok.fresh hge
    generalize hmore : (#[rawInt pos.line, rawInt pos.col, .ref c1] : Array Value) = more at *
    have J := inv_table (t' := tk) (more := more) (h' := h2.push (PySem.W.kla_obj "<lambda>" (lamQ X) params body scope (cloFrom X.env.cells scope.names []) ((X.mg "__name__").getD .none) c1 ctv)) I atP
      (fun b o hb e => Heap.get?_push_of_some _ (hx b o hb e)) (Heap.get?_push_of_some _ htb) hge ⟨oc, vs, t, Heap.get?_push_of_some _ hoc, hd, hv⟩
    have ex : ExtN H (upd (upd H P (.tbl (ts ++ more))) c1 (CodeO c1 (lamQ X))) := fun b o e n => by
      rw [upd_ne (ne_of_none e nC), upd_ne (fun z : b = P => n ts (Option.some.inj (e.symm.trans (by rw [z]; exact atP))))]
      exact e
    have nn : ∀ q, upd (upd H P (.tbl (ts ++ more))) c1 (CodeO c1 (lamQ X)) q = none → H q = none := fun q z => by
      by_cases h1 : q = c1
      · rw [h1, upd_same] at z; cases z
      · rw [upd_ne h1] at z
        by_cases h3 : q = P
        · rw [h3, upd_same] at z; cases z
        · rwa [upd_ne h3] at z
    refine h h2.objs.size c1 ((X.mg "__name__").getD .none) ctv _ _ J ex nn (fun p hp => ?_) (Heap.get?_push_size _ rfl) ?_ (young _ big) upd_same
    · by_cases hb : p.1 = P
      · have eL : (ts ++ more).toList = ts.toList ++ [rawInt pos.line, rawInt pos.col, .ref c1] := by rw [← hmore]; simp
        rw [hu p hp hb, hb]
        refine ⟨_, by rw [upd_ne (ne_of_none atP nC), upd_same], by rw [eL]; exact PySem.TriplesOk_snoc _ _ _ _ okT, fun p2 cv hcv => ?_⟩
        rw [eL] at hcv
        rcases among_app _ okT hcv with z | z
        · obtain ⟨c0, q1, q2⟩ := amT p2 cv z
          exact ⟨c0, q1, ex _ _ q2 codeO_ne⟩
        · exact ⟨c1, z, upd_same⟩
      · obtain ⟨us, a1, a2, a3⟩ := tabs p hp
        refine ⟨us, by rw [upd_ne (ne_of_none a1 nC), upd_ne hb]; exact a1, a2, fun p2 cv hcv => ?_⟩
        obtain ⟨c0, q1, q2⟩ := a3 p2 cv hcv
        exact ⟨c0, q1, ex _ _ q2 codeO_ne⟩
    · rw [upd_ne (Nat.ne_of_gt hlt), upd_ne (Nat.ne_of_gt (Nat.lt_of_lt_of_le (Heap.lt_size gP) big))]
      exact I.hok.fresh big

/-- the context of the lambda's body: exceptions go out with their context None -/
def lamN (X : Cx) (A : Around) (outer : List Env) (s : Shared) (H : Hp) (E : XK) (scope : Scope) (f c1 : Addr) : Cx :=
  (lamCx X A outer s H E scope f c1).wish fun e s2 => wpAny (model X.prog X.w) (A.deeper (lamEnv X scope s.heap.objs.size f c1)) (leaving (lamEnv X scope s.heap.objs.size f c1) e) (fun _ s3 => L2N.CX X.prog X.w outer H s E e s3) (fun u s3 => L2N.CX X.prog X.w outer H s E u s3) s2
theorem takesN {A : Around} {outer : List Env} {E : XK} {scope : Scope} {f c1 : Addr} : L2N.Takes (lamN X A outer s H E scope f c1) (fun cls d _ H2 => E cls d H2) := L2N.takes_of rfl rfl rfl rfl
/-- the call of what the def got -/
theorem act_N {CXg : CXT} {Eg : XK} {Ng : List Str} {qg : Str} {sg : Scope} {g f c1 : Addr} {cdg pm ctv : Value} {params : Arguments} {body : Expr} {scope : Scope} {k i : Nat} {a : Str} {pn : List (Addr × Obj)} {xe : Value → Shared → Prop} {W : WX} {E : XK} {tb : TE} {p1 p2 : Pos}
    (I : Inv X pins σ H s) (L : LamS X.env.scope scope) (hf : s.heap.get? f = some (PySem.W.kla_obj "<lambda>" (lamQ X) params body scope (cloFrom X.env.cells scope.names []) pm c1 ctv)) (hfn : H f = none) (hfr : f ∉ frs X.stack)
    (hbind : bindArgs (PySem.W.kla_fn "<lambda>" (lamQ X) params body scope (cloFrom X.env.cells scope.names []) pm (.ref c1) ctv) ⟨[], []⟩ = pure [])
    (tk : L2N.Takes ((cxOf CXg X.prog X.w X.K X.mg X.base Ng qg sg g cdg X.A X.stack s H Eg).tr pn xe) W) (hr : Room (k + 1) (X.A.deeper (envOfC qg sg s.heap.objs.size g cdg)))
    (hbody : ∀ (A : Around) (outer : List Env) (s : Shared) (H : Hp), Room k (A.deeper (lamEnv X scope s.heap.objs.size f c1)) → PE (lamN X A outer s H E scope f c1) body tb)
    (hN : Ng[i]? = some a) (hv : Vis sg a) (hd : (a == ("__debug__" : Str)) = false) (hcd : (a == ("__classdict__" : Str)) = false) :
    PE ((cxOf CXg X.prog X.w X.K X.mg X.base Ng qg sg g cdg X.A X.stack s H Eg).tr pn xe) (.Call (.Name a p1) [] [] p2)
      (fun σZ HZ Q => (∀ cls d H2, E cls d H2 → W cls d σZ H2) ∧ σZ[i]? = some (some (.ref f)) ∧ HZ c1 = some (CodeO c1 (lamQ X)) ∧ tb σ HZ Q) := by
  refine ⟨fun pinsZ sZ σZ HZ Q IZ ⟨hW, hs, hc, ht⟩ => ?_⟩
  refine wpAny_Call_Name_kw (thn ((pe_var (pos := p1) (i := i) hN hv hd hcd).run pinsZ sZ σZ HZ (fun v H1 => v = .ref f ∧ H1 = HZ) IZ ⟨.ref f, hs, rfl, rfl⟩) fun u s1 ⟨v, H1, I1, r1, ev, eH⟩ => ?_)
  subst ev
  subst eH
  cases r1
  have un : Un (frs X.stack) [] H H1 s.heap s1.heap := I1.base
  have here : s1.heap.get? f = some (PySem.W.kla_obj "<lambda>" (lamQ X) params body scope (cloFrom X.env.cells scope.names []) pm c1 ctv) := un.keep f _ hf hfn hfr fun z => nomatch z
  refine PySem.W.callWith_F0 ⟨_, _, _, _, here⟩ (wpAny_call (codeAny_mono (R := CR (L2N.CX X.prog X.w) (envOfC qg sg s.heap.objs.size g cdg :: X.stack) X.prog X.w H1 s1 Q E) ?_ fun r s2 hq => ?_))
  · obtain ⟨⟨oc, vs, t, hoc, hdc, hvc⟩, _, _⟩ := I1.hok c1 _ hc
    refine PySem.W.kla_callFunE hr.depth here rfl L.co L.gen rfl ⟨c1, oc, vs, t, rfl, hoc, hdc, hvc⟩ ?_
    have hb2 : bindArgs (PySem.W.kla_fn "<lambda>" (lamQ X) params body scope (cloFrom X.env.cells scope.names []) pm (.ref c1) ctv) ⟨[] ++ [], []⟩ = pure [] := hbind
    rw [hb2]
    refine wpAny_pure (wpAny_newFunctionEnv (fun y hy => (L.own y hy).2) (fun y hy => absurd hy (by simp)) (fun h1 hns hsb => ⟨I1.nolimit.fresh _ hsb, ?_⟩) L.kind)
    have kp : ∀ b o, s1.heap.get? b = some o → h1.get? b = some o := fun b o e => hsb.extBut b o (Nat.ne_of_lt (Heap.lt_size e)) (Heap.get?_push_of_some _ e)
    have J := lam_start2 (A := X.A.deeper (envOfC qg sg s.heap.objs.size g cdg)) (outer := envOfC qg sg s.heap.objs.size g cdg :: X.stack) (E := E) (f := f) (c' := c1) (tk := s1.toks + ([] : List (Str × Value)).length) I L I1.env0 hr.hd un hns kp
    refine PySem.W.kla_codeExpr (wpAny_mono ((hbody _ _ s1 H1 (hr.deeper _)).run [] _ _ H1 Q (J.wish _) ht) (fun v s2 ⟨w2, H2, J2, rv, q⟩ => ?_) fun e s2 hq => hq)
    exact ⟨w2, H2, J2.os, J2.bare, J2.base, J2.hok, rv, q⟩
  · cases r with
    | error e => exact tk e s2 (L2N.XE.of_call I1 (fun cls d H2 z => hW cls d H2 z) hq)
    | ok fl =>
      cases fl with
      | ret u => exact I1.after hq
      | next => exact False.elim hq
      | brk => exact False.elim hq
      | cont => exact False.elim hq
end
end PL
/-! PL, part v: the def that tries what it got; the call with a lambda. -/
namespace PL
open PySem PySem.Spec PyProof.Rows L2 LamX L2H
def EndOk (F : Fx) (Q : VK) (x : Str) (H1 : Hp) : Prop :=
  Tabs F.T H1 ∧ ∀ H2 : Hp, (∀ q o, H1 q = some o → (∀ ps, o ≠ .tbl ps) → H2 q = some o) → (∀ q, H2 q = none → H1 q = none) → Tabs F.T H2 → Q (.str x) H2
/-- what may come out of the call: a class of the table; the suite answers its words -/
def ErrX (F : Fx) (ok : Nat → Bool) (wd : Nat → Str) (Q : VK) : XK := fun cls d H1 => ∃ c, ok c = true ∧ cls = .ref (F.ca c) ∧ d = none ∧ EndOk F Q (wd c) H1
abbrev exF (F : Fx) (a : Addr) : Fx := { F with fa := fun _ => a }
def startX (n i : Nat) : Ev := (List.replicate n .em).set i (.pu (.fn 0))
abbrev errC (P : Program) (w : World) (K : PySem.W.Frag) (mg : Str → Option Value) (base : Heap) (Ng : List Str) (x : Str) (sg : Scope) (g : Addr) (cdv : Value) (A : Around) (stack : List Env) (s : Shared) (H : Hp) : Cx :=
  cxOf C8.CX0 P w K mg base Ng x sg g cdv A stack s H C8.E0
/-- the text that a suite returns -/
def rtS : Out → Option Str
  | .rt (.str x) _ => some x
  | _ => none
theorem rt_some {r : Out} (h : (rtS r).isSome = true) : ∃ ε2, r = .rt (.str ((rtS r).getD "")) ε2 := by
  cases r with
  | rt d ε =>
    cases d with
    | str x => exact ⟨ε, rfl⟩
    | _ => cases h
  | _ => cases h
structure EFn (F : Fx) (P : Program) (w : World) (K : PySem.W.Frag) (mg : Str → Option Value) (base : Heap) (x a dn : Str) (ok : Nat → Bool) (wd : Nat → Str) : Prop where
  ex : ∃ (g : Addr) (Ng : List Str) (sg : Scope) (pg : Arguments) (bg : List Stmt) (kV doc pm cdv ct oc : Value) (an od : Option Addr) (osl : Array (Option Value)),
    mg x = some (.ref g) ∧ PySem.W.keepIn K (.ref g) = true ∧ K.lookup g = some ⟨oc, od, .func (PySem.W.fnOf x x pg bg sg .none kV doc pm an cdv ct), osl⟩ ∧ PySem.W.codeIn K cdv x = true ∧
    L2.Binds K (PySem.W.fnOf x x pg bg sg .none kV doc pm an cdv ct) [a] [] ∧ FnScope Ng [a] sg ∧ Ng[0]? = some a ∧ Vis sg a ∧
    ∀ (A : Around) (stack : List Env) (f c1 : Addr) (s : Shared) (H : Hp) (q : Str) (Q : VK) (tl : XK → Hp → VK → Prop), Room 0 (A.deeper (envOfC x sg s.heap.objs.size g cdv)) →
      (∀ (W : WX) (pn : List (Addr × Obj)) (xe : Value → Shared → Prop) (E : XK) (p1 p2 : Pos), L2N.Takes ((errC P w K mg base Ng x sg g cdv A stack s H).tr pn xe) W →
        PE ((errC P w K mg base Ng x sg g cdv A stack s H).tr pn xe) (.Call (.Name a p1) [] [] p2) (fun σZ HZ R => (∀ cls d H2, E cls d H2 → W cls d σZ H2) ∧ σZ[0]? = some (some (.ref f)) ∧ HZ c1 = some (CodeO c1 q) ∧ tl E HZ R)) →
      H c1 = some (CodeO c1 q) → tl (ErrX F ok wd Q) H (fun _ H1 => Q (.str dn) H1) →
      ∃ t, PSs (errC P w K mg base Ng x sg g cdv A stack s H).nox bg t ∧ t { nx := fun _ H1 => Q .non H1, rt := Q } (L2.start Ng [.ref f]) H
section
variable {F : Fx} {P : Program} {w : World} {K : PySem.W.Frag} {mg : Str → Option Value} {base : Heap}
theorem start_len (Ng : List Str) (v : V) (h : 1 ≤ Ng.length) : (L2.start Ng [v]).length = Ng.length := by
  unfold L2.start
  simp only [List.length_append, List.length_map, List.length_replicate, List.length_cons, List.length_nil]
  omega
theorem startX_get {n i j : Nat} {x : Slot} (h : (startX n i)[j]? = some x) : (j = i ∧ x = .pu (.fn 0)) ∨ x = .em := by
  unfold startX at h
  by_cases hj : i = j
  · subst hj
    have hl := (List.getElem?_eq_some_iff.mp h).1
    rw [List.getElem?_set_self (by simpa using hl)] at h
    exact .inl ⟨rfl, (Option.some.inj h).symm⟩
  · rw [List.getElem?_set_ne hj, List.getElem?_replicate] at h
    split at h
    · exact .inr (Option.some.inj h).symm
    · cases h
theorem startX_own {n i : Nat} {σ : L2.St} {q : Addr} : ¬ Own σ (startX n i) q := fun ⟨j, ds, e, _⟩ => by
  rcases startX_get e with ⟨_, z⟩ | z <;> cases z
/-- at the suite's beginning nothing but the exception is known -/
theorem sr_startX {a : Addr} {H : Hp} {σ : L2.St} {n i : Nat} (tabs : Tabs F.T H) (hl : σ.length = n) : SR ⟨exF F a, none⟩ (fun _ => none) H (σ.set i (some (.ref a))) (startX n i) := by
  refine ⟨fun _ _ h => (nomatch h), fun _ _ h => (nomatch h), tabs, by simp [startX, hl], fun j x o e1 e2 => ?_, fun j l ds es q e1 _ _ _ => ?_, fun p h => (nomatch h)⟩
  · rcases startX_get e1 with ⟨rfl, rfl⟩ | rfl
    · have hj := (List.getElem?_eq_some_iff.mp e2).1
      rw [List.getElem?_set_self (by simpa using hj)] at e2
      cases e2
      exact ⟨.ref a, rfl, by simp only [Rp]⟩
    · trivial
  · rcases startX_get e1 with ⟨_, z⟩ | z <;> cases z
theorem efn_of (hF : F.K = K) {x a dn rn en : Str} {st : Stmt} {g : Addr} {fd : FuncData} {Ng : List Str} {i j : Nat} {CR : Addr} {b₀ : Stmt} {suite : List Stmt} {p1 p2 p3 p4 p5 p6 p7 p8 : Pos} {ok : Nat → Bool} {wd : Nat → Str}
    (Fu : Fun K x x st g fd) (gm : mg x = some (.ref g)) (S : FnScope Ng [a] (defScope st))
    (hst : defBody st = [.Try [.Expr (.Call (.Name a p1) [] [] p2) p3] [.ExceptHandler (some (.Name rn p4)) (some en) (b₀ :: suite) p5] [] [] p6, .Return (some (.Constant (.str dn) j p7)) p8])
    (h0 : Ng[0]? = some a) (hva : Vis (defScope st) a) (hi : Ng[i]? = some en) (hln : (defScope st).names.lookup en = some .local) (hge : (defScope st).names.lookup rn = some .globalImplicit) (hme : mg rn = some (.ref CR)) (hde : (rn == ("__debug__" : Str)) = false)
    (hsub : ∀ c, ok c = true → PySem.W.exmOne K (.ref (F.ca c)) (.ref CR) = some true) (hb : Binds K fd [a] [])
    (hsu : ∀ (cdv : Value) (A : Around) (stack : List Env) (s : Shared) (H : Hp) (e : Addr) (oe : Obj) (pn : List (Addr × Obj)) (c : Nat), ok c = true → L2N.Zn (.ref (F.ca c)) none oe → (∃ vs, oe.data = .fields vs) →
      CH ⟨exF F e, none⟩ ((errC P w K mg base Ng x (defScope st) g cdv A stack s H).nox.suite e ((e, oe) :: pn)) →
      ∃ (body : Ev → Out) (ε2 : Ev), PSs' ⟨exF F e, none⟩ W0 ((errC P w K mg base Ng x (defScope st) g cdv A stack s H).nox.suite e ((e, oe) :: pn)) (b₀ :: suite) body ∧ body (startX Ng.length i) = .rt (.str (wd c)) ε2) :
    EFn F P w K mg base x a dn ok wd := by
  obtain ⟨oc, od, kV, doc, pm, an, cdv, ct, osl, rfl, lk, hcd⟩ := Fu.ex
  have hN1 : 1 ≤ Ng.length := (List.getElem?_eq_some_iff.mp h0).1
  refine ⟨g, Ng, defScope st, defArgs st, defBody st, kV, doc, pm, cdv, ct, oc, an, od, osl, gm, Fu.kp, lk, hcd, hb, S, h0, hva, ?_⟩
  intro A stack f c1 s H q Q tl hroom act hc ht
  obtain ⟨Z, hZ⟩ : ∃ Z, Z = (errC P w K mg base Ng x (defScope st) g cdv A stack s H).nox := ⟨_, rfl⟩
  -- the suite's reading
  let ts : Addr → Value → Option Addr → TS := fun e cls d D σ H1 => ∀ (oe : Obj) (pn : List (Addr × Obj)), L2N.Zn cls d oe → (∃ vs, oe.data = .fields vs) → ∃ t, PSs ((errC P w K mg base Ng x (defScope st) g cdv A stack s H).nox.suite e ((e, oe) :: pn)) (b₀ :: suite) t ∧ t D σ H1
  have hcb : Names (errC P w K mg base Ng x (defScope st) g cdv A stack s H).nox rn (.ref CR) := ⟨hge, hde, .inl hme⟩
  have tr := L2N.ps_try_as (X := (errC P w K mg base Ng x (defScope st) g cdv A stack s H).nox) (x := rn) (n := en) (c := .ref CR) (i := i) (body := [.Expr (.Call (.Name a p1) [] [] p2) p3]) (suite := suite) (b₀ := b₀) (np := p4) (pos := p6) (pos' := p5)
    (tb := fun W D σZ HZ => ∃ E : XK, (∀ cls d H2, E cls d H2 → W cls d σZ H2) ∧ σZ[0]? = some (some (.ref f)) ∧ HZ c1 = some (CodeO c1 q) ∧ tl E HZ (fun _ H2 => D.nx σZ H2)) (ts := ts) (Wout := W0) rfl rfl S.nd hi hln hcb takes00
    (fun W pn xe tk _ => ⟨fun pins s2 σZ HZ D IZ ⟨E, e1, e2, e3, e4⟩ => (pss_one (ps_expr (act W pn xe E p1 p2 tk))).run pins s2 σZ HZ D IZ ⟨e1, e2, e3, e4⟩⟩)
    (fun e oe cls d pn hz hd => ⟨fun pins s2 σZ HZ D IZ h => (h oe pn hz hd).elim fun t z => z.1.run pins s2 σZ HZ D IZ z.2⟩)
  rw [hst]
  refine ⟨_, pss_cons tr (pss_one (ps_ret pe_str)), ErrX F ok wd Q, fun cls d H1 ⟨c, okc, ec, ed, tabs, fin⟩ => ?_, rfl, hc, ht⟩
  subst ec ed
  refine ⟨true, hsub c okc, fun _ e ne oe pn hz hd => ?_, fun z => nomatch z⟩
  have hot : HotC ((errC P w K mg base Ng x (defScope st) g cdv A stack s H).nox.suite e ((e, oe) :: pn)) := by
    obtain ⟨vs, hv⟩ := hd
    exact ⟨(e, oe), ⟨rfl, vs, hv, hz.2.2 vs hv⟩, List.mem_cons_self⟩
  obtain ⟨body, ε2, ⟨t, et, qt⟩, eb⟩ := hsu cdv A stack s H e oe pn c okc hz hd ⟨hF.symm, S.nd, hot, hroom.units⟩
  refine ⟨t, et, qt _ (fun _ => none) H1 (startX Ng.length i) (sr_startX tabs (start_len Ng _ hN1)) _ ?_⟩
  rw [eb]
  intro v σ2 G2 H2 s2 st2 r
  rw [rp_str] at r
  subst r
  exact fin H2 (fun q o h nt => st2.hh q o h nt startX_own) st2.hs s2.tabs
end
/-- the maker's code object and its table -/
structure TabC (M : Fr) (X : Cx) : Prop where
  ex : ∃ cc P, TabB X.base X.mg cc P ∧ X.env.code = .ref cc ∧ (P, lamQ X) ∈ M.F.T ∧ ∀ p ∈ M.F.T, p.1 = P → p.2 = lamQ X
theorem TabC.blk {M : Fr} {X : Cx} (t : TabC M X) (s : Shared) (H : Hp) (scope : Scope) (cl : List (Str × Addr)) (C : Addr) (fp : List Addr) : TabC M (X.blk s H scope (compEnvC scope cl C X.env) fp) := ⟨t.ex⟩
@[reducible] def errR (dn : Str) (ok : Nat → Bool) (wd : Nat → Str) (ε : Ev) : Res D → Res (D × Ev)
  | .ok _ => .ok (.str dn, ε)
  | .err c => if ok c then .ok (.str (wd c), ε) else .stuck
  | .stuck => .stuck
@[reducible] def eErrG (dn : Str) (ok : Nat → Bool) (wd : Nat → Str) (sel : Ev → Option (List D → Res D)) (fs : Ev → Res (List D × Ev)) : Ev → Res (D × Ev) := fun ε => match sel ε with
  | some g => (fs ε).ne.bind fun p => errR dn ok wd p.2 (g p.1)
  | none => .stuck
/-- the def is named -/
@[reducible] def eErr (dn : Str) (ok : Nat → Bool) (wd : Nat → Str) (g : List D → Res D) (fs : Ev → Res (List D × Ev)) : Ev → Res (D × Ev) := eErrG dn ok wd (fun _ => some g) fs
/-- the slot i holds it -/
@[reducible] def selV (i : Nat) (gs : Nat → Option (List D → Res D)) : Ev → Option (List D → Res D) := fun ε => match ε[i]? with
  | some (.pu (.fn k)) => gs k
  | _ => none
@[reducible] def eErrV (dn : Str) (ok : Nat → Bool) (wd : Nat → Str) (i : Nat) (gs : Nat → Option (List D → Res D)) (fs : Ev → Res (List D × Ev)) : Ev → Res (D × Ev) := eErrG dn ok wd (selV i gs) fs
theorem tOf_pa {M : Fr} {W : WX} {Y : Cx} {es : List Expr} {fs : Ev → Res (List D × Ev)} (h : PA' M W Y es fs) : PA Y es (tOf M W (RpL M.F) fs) := by
  obtain ⟨⟨t, et, q⟩, _⟩ := h
  exact ⟨fun pos pins s σ H Q I ⟨G, ε, r, p⟩ => et.run pos pins s σ H Q I (q σ G H ε r Q p)⟩
section
variable {M : Fr} {W : WX} {X : Cx} {k : Nat} {pos : Pos}
theorem co_lam (c : CO M W k X) {A : Around} {outer : List Env} {s : Shared} {H : Hp} {E : XK} {scope : Scope} {f c1 : Addr} {k2 : Nat} (hr : Room k2 (A.deeper (lamEnv X scope s.heap.objs.size f c1))) : CO M W0 k2 (lamN X A outer s H E scope f c1) :=
  ⟨c.hK, rfl, takes00, c.nd, hr, passes_of rfl⟩
theorem pv_lawerrG (c : CO M W k X) {x a dn : Str} {ok : Nat → Bool} {wd : Nat → Str} {k2 n : Nat} {body : Expr} {fs : Ev → Res (List D × Ev)} {params : Arguments} {scope : Scope} {p lpos : Pos} {sel : Ev → Option (List D → Res D)} {sl : (List D → Res D) → L2.St → Prop}
    (hE : EFn M.F X.prog X.w X.K X.mg X.base x a dn ok wd) (hk : k2 + 2 ≤ k) (tb : TabC M X) (hlen : ∀ {ε : Ev} {q : List D × Ev}, fs ε = .ok q → q.1.length = n)
    (hsel : ∀ (G H : Hp) (σ : L2.St) (ε : Ev) (g : List D → Res D), SR M G H σ ε → sel ε = some g → sl g σ)
    (bd : ∀ (E : XK) (A : Around) (outer : List Env) (s3 : Shared) (H3 : Hp) (f c1 : Addr), CO M W0 k2 (lamN X A outer s3 H3 E scope f c1) → PE (lamN X A outer s3 H3 E scope f c1) body (fun σ H Q => ∃ g, sl g σ ∧ tOf M W0 (RpL M.F) fs σ H fun vs H2 => SpP M.F n g vs H2 Q E))
    (L : LamS X.env.scope scope) (hg : Gl X x) (hdef : defaultsOf params X.env = ([], [])) (hbind : ∀ (q : Str) (cl : List (Str × Addr)) (pm cv ctv : Value), bindArgs (PySem.W.kla_fn "<lambda>" q params body scope cl pm cv ctv) ⟨[], []⟩ = pure [])
    (hx : (x == ("__debug__" : Str)) = false) (ha1 : (a == ("__debug__" : Str)) = false) (ha2 : (a == ("__classdict__" : Str)) = false) : PV M W X (.Call (.Name x p) [.Lambda params body scope lpos] [] pos) (eErrG dn ok wd sel fs) := by
  obtain ⟨gg, Ng, sg, pg, bg, kV, doc, pm, cdv, ct, oc, an, od, osl, gm, kp, lk, hcd, hb, S, h0, hva, gives⟩ := hE.ex
  obtain ⟨cc, P, TB, hcode, hmT, hu⟩ := tb.ex
  refine ⟨fun σ H Q => Tabs M.F.T H ∧ ∀ H1, ExtN H H1 → (∀ q, H1 q = none → H q = none) → Tabs M.F.T H1 → ∃ g, sl g σ ∧ tOf M W0 (RpL M.F) fs σ H1 (fun vs H2 => SpP M.F n g vs H2 (fun _ H3 => Q (.str dn) H3) (ErrX M.F ok wd Q)), ?_, ?_⟩
  · refine ⟨fun pins s σ H Q I ⟨hT, h⟩ => ?_⟩
    refine wpAny_Call_Name_kw (ld_glob I hg gm ?_ hx)
    refine PySem.W.callWith_K (h₀ := X.base) I.ok.mod.kin kp ?_ (by rfl) (by rfl)
    refine Calls.spliced_cons (lam_new I TB hcode hmT hu hT hdef (L.has I.ok) fun f c1 pm1 ctv H1 s2 I1 eN nn T1 hf hfn hfr hco => ?_)
    refine Calls.spliced_nil ⟨I1.kIn, ?_⟩
    have rc : codeAny (model X.prog X.w) X.A (.call (.ref gg) ⟨[.ref f], []⟩) (CR C8.CX0 X.stack X.prog X.w H1 s2 Q C8.E0) s2 := by
      refine run_ofS (N := Ng) (ps := [a]) (us := [.ref f]) (vs := [.ref f]) lk hcd S (c.hr.mono hk) I1.env0 (hb s2 [.ref f] I1.kIn rfl) (.cons rfl .nil) rfl fun hr2 => ?_
      obtain ⟨t, et, ht⟩ := gives X.A X.stack f c1 s2 H1 (lamQ X) Q (fun E H2 R => ∃ g, sl g σ ∧ tOf M W0 (RpL M.F) fs σ H2 fun vs H3 => SpP M.F n g vs H3 R E) (hr2.mono (Nat.zero_le _))
        (fun W2 pn xe E p1 p2 tk => act_N (i := 0) I1 L hf hfn hfr (hbind _ _ _ _ _) tk hr2 (fun A outer s3 H3 hr3 => bd E A outer s3 H3 f c1 (co_lam c hr3)) h0 hva ha1 ha2) hco (h H1 eN nn T1)
      exact ⟨t, et.nox, ht⟩
    refine wpAny_call (codeAny_mono rc fun r s3 hq => ?_)
    cases r with
    | error u => exact (show False from hq).elim
    | ok fl =>
      cases fl with
      | ret u => exact I1.after hq
      | next => exact False.elim hq
      | brk => exact False.elim hq
      | cont => exact False.elim hq
  · intro σ G H ε s Q hp
    refine ⟨s.tabs, fun H1 eN nn T1 => ?_⟩
    have gr : Grow G H G H1 := ⟨fun _ _ h => h, eN, nn, fun _ _ h => .inl h⟩
    have s1 : SR M G H1 σ ε := s.grow gr (fun q o h => eN q o (s.sub q o h) fun ps z => s.ntb q ps (z ▸ h)) s.ntb T1
    have hp1 := Post.shift s1 (gr.step _) hp
    simp only [eErrG] at hp1
    cases e0 : sel ε with
    | none => rw [e0] at hp1; exact hp1.elim
    | some g =>
    rw [e0] at hp1
    simp only at hp1
    refine ⟨g, hsel G H1 σ ε g s1 e0, G, ε, s1, ?_⟩
    cases e1 : fs ε with
    | stuck => rw [e1] at hp1; exact hp1.elim
    | err cc => rw [e1] at hp1; exact hp1.elim
    | ok q =>
      rw [e1] at hp1
      simp only [Res.ne_ok, Res.bind_ok] at hp1
      intro vs G2 H2 s2 st2 rs
      refine ⟨q.1, G2, hlen e1, s2.hg, rs, ?_⟩
      cases e2 : g q.1 with
      | stuck => rw [e2] at hp1; exact hp1.elim
      | ok dd =>
        rw [e2] at hp1
        exact fun v G3 H3 g3 hg3 r => hp1 (.str dn) G3 H3 (s2.grow g3 hg3.sub hg3.ntb hg3.tabs) (st2.trans s2.sub (g3.step _)) (rp_str.mpr rfl)
      | err ce =>
        rw [e2] at hp1
        simp only [errR] at hp1
        split at hp1
        · rename_i hok
          intro G3 H3 g3 hg3
          have s3 := s2.grow g3 hg3.sub hg3.ntb hg3.tabs
          have st3 := st2.trans s2.sub (g3.step (Own σ q.2))
          refine ⟨ce, hok, rfl, rfl, hg3.tabs, fun H4 hh hs T4 => ?_⟩
          have g4 : Grow G3 H3 G3 H4 := ⟨fun _ _ h => h, hh, hs, fun _ _ h => .inl h⟩
          exact hp1 (.str (wd ce)) G3 H4 (s3.grow g4 (fun q o h => hh q o (s3.sub q o h) fun ps z => s3.ntb q ps (z ▸ h)) s3.ntb T4) (st3.trans s3.sub (g4.step _)) (rp_str.mpr rfl)
        · exact hp1.elim
section
variable {x y a dn : Str} {ok : Nat → Bool} {wd : Nat → Str} {k2 n : Nat} {e : Expr} {es : List Expr} {fs : Ev → Res (List D × Ev)} {params : Arguments} {scope : Scope} {p p3 p4 lpos : Pos}
theorem lam_len (c : CO M W k X) (hk : k2 + 2 ≤ k) (ha : ∀ (A : Around) (outer : List Env) (s : Shared) (H : Hp) (E : XK) (f c1 : Addr), CO M W0 k2 (lamN X A outer s H E scope f c1) → PA' M W0 (lamN X A outer s H E scope f c1) (e :: es) fs) (hn : (e :: es).length = n) {ε : Ev} {q : List D × Ev} (e1 : fs ε = .ok q) : q.1.length = n := by
  have r1 : Room (k2 + 1) X.A := (c.hr.mono hk).mono (Nat.le_succ _)
  have z : LenOk (e :: es).length fs := (ha X.A X.stack X.s_0 X.H_0 (fun _ _ _ => False) 0 0 (co_lam c (r1.deeper _))).2
  rw [z _ _ e1]
  exact hn
theorem pv_lawerr (c : CO M W k X) {g : List D → Res D} (hE : EFn M.F X.prog X.w X.K X.mg X.base x a dn ok wd) (d : DOk M.F X.prog X.w X.K X.mg X.base y k2 n (SpP M.F n g)) (hk : k2 + 2 ≤ k) (tb : TabC M X)
    (ha : ∀ (A : Around) (outer : List Env) (s : Shared) (H : Hp) (E : XK) (f c1 : Addr), CO M W0 k2 (lamN X A outer s H E scope f c1) → PA' M W0 (lamN X A outer s H E scope f c1) (e :: es) fs)
    (hn : (e :: es).length = n := by rfl) (L : LamS X.env.scope scope := by exact LamX.lamS_by rfl) (hg : Gl X x := by rfl) (hgy : scope.names.lookup y = some .globalImplicit := by rfl) (hdef : defaultsOf params X.env = ([], []) := by rfl)
    (hbind : ∀ (q : Str) (cl : List (Str × Addr)) (pm cv ctv : Value), bindArgs (PySem.W.kla_fn "<lambda>" q params (.Call (.Name y p3) (e :: es) [] p4) scope cl pm cv ctv) ⟨[], []⟩ = pure [] := by intros; rfl)
    (hx : (x == ("__debug__" : Str)) = false := by decide) (hy : (y == ("__debug__" : Str)) = false := by decide) (ha1 : (a == ("__debug__" : Str)) = false := by decide) (ha2 : (a == ("__classdict__" : Str)) = false := by decide)
    (hse : ∀ env : Env, starEach (e :: es) env = (false, eval e env) :: starEach es env := by intro _; rfl) (hpl : ∀ env : Env, (backTo p4 (starEach es env)).any (·.1) = false := by intro _; rfl) :
    PV M W X (.Call (.Name x p) [.Lambda params (.Call (.Name y p3) (e :: es) [] p4) scope lpos] [] pos) (eErr dn ok wd g fs) := by
  obtain ⟨fy, fdy, psy, Fy, gmy, kpy, by_⟩ := d.ex
  refine pv_lawerrG (n := n) (sl := fun g2 _ => g2 = g) c hE hk tb (lam_len c hk ha hn) (fun _ _ _ _ g2 _ z => (Option.some.inj z).symm) (fun E A outer s3 H3 f c1 cl => ⟨fun pins s σ H Q I ⟨g2, hg2, h⟩ => ?_⟩) L hg hdef hbind hx ha1 ha2
  subst hg2
  exact (pe_callS (X := lamN X A outer s3 H3 E scope f c1) Fy cl.hr hgy gmy kpy by_ (fun σ2 => L2N.passAt takesN σ2) (tOf_pa (ha A outer s3 H3 E f c1 cl)) hy (hse _) (hpl _)).run pins s σ H Q I h
/-- the table of the defs that a slot may hold -/
def DVs (F : Fx) (P : Program) (w : World) (K : PySem.W.Frag) (mg : Str → Option Value) (base : Heap) (k n : Nat) (gs : Nat → Option (List D → Res D)) : Prop := ∀ kf g, gs kf = some g → ∃ (fd : FuncData) (ps : List Str), FnOk P w K mg base (L2N.CX P w) k (F.fa kf) fd ps (SpP F n g) ∧ PySem.W.keepIn K (.ref (F.fa kf)) = true ∧ Binds K fd ps []
theorem pv_lawerrV (c : CO M W k X) (i : Nat) {gs : Nat → Option (List D → Res D)} (hE : EFn M.F X.prog X.w X.K X.mg X.base x a dn ok wd) (d : DVs M.F X.prog X.w X.K X.mg X.base k2 n gs) (hk : k2 + 2 ≤ k) (tb : TabC M X)
    (ha : ∀ (A : Around) (outer : List Env) (s : Shared) (H : Hp) (E : XK) (f c1 : Addr), CO M W0 k2 (lamN X A outer s H E scope f c1) → PA' M W0 (lamN X A outer s H E scope f c1) (e :: es) fs)
    (hn : (e :: es).length = n := by rfl) (L : LamS X.env.scope scope := by exact LamX.lamS_by rfl) (hg : Gl X x := by rfl) (hN : X.N[i]? = some y := by rfl) (hv : Vis scope y := by first | exact Or.inl rfl | exact Or.inr (Or.inl rfl) | exact Or.inr (Or.inr rfl)) (hdef : defaultsOf params X.env = ([], []) := by rfl)
    (hbind : ∀ (q : Str) (cl : List (Str × Addr)) (pm cv ctv : Value), bindArgs (PySem.W.kla_fn "<lambda>" q params (.Call (.Name y p3) (e :: es) [] p4) scope cl pm cv ctv) ⟨[], []⟩ = pure [] := by intros; rfl)
    (hx : (x == ("__debug__" : Str)) = false := by decide) (hy : (y == ("__debug__" : Str)) = false := by decide) (hy2 : (y == ("__classdict__" : Str)) = false := by decide) (ha1 : (a == ("__debug__" : Str)) = false := by decide) (ha2 : (a == ("__classdict__" : Str)) = false := by decide)
    (hse : ∀ env : Env, starEach (e :: es) env = (false, eval e env) :: starEach es env := by intro _; rfl) (hpl : ∀ env : Env, (backTo p4 (starEach es env)).any (·.1) = false := by intro _; rfl) :
    PV M W X (.Call (.Name x p) [.Lambda params (.Call (.Name y p3) (e :: es) [] p4) scope lpos] [] pos) (eErrV dn ok wd i gs fs) := by
  refine pv_lawerrG (n := n) (sl := fun g σ => ∃ kf, σ[i]? = some (some (.ref (M.F.fa kf))) ∧ gs kf = some g) c hE hk tb (lam_len c hk ha hn) (fun G H σ ε g s z => ?_) (fun E A outer s3 H3 f c1 cl => ⟨fun pins s σ H Q I ⟨g, ⟨kf, h1, h2⟩, h⟩ => ?_⟩) L hg hdef hbind hx ha1 ha2
  · simp only [selV] at z
    cases e1 : ε[i]? with
    | none => rw [e1] at z; cases z
    | some sl =>
      rw [e1] at z
      cases sl with
      | em => cases z
      | ow ds => cases z
      | pu d =>
        cases d with
        | fn kf =>
          obtain ⟨v, ev, r⟩ := s.pu e1
          simp only [Rp] at r
          subst r
          exact ⟨kf, ev, z⟩
        | _ => cases z
  · obtain ⟨fd, ps, Fy, kpy, by_⟩ := d kf g h2
    have px : Passes (L2N.CX X.prog X.w) (lamN X A outer s3 H3 E scope f c1) E := L2N.passes_call takesN fun _ _ _ _ z => z
    refine (pe_callL (X := lamN X A outer s3 H3 E scope f c1) (i := i) (f := M.F.fa kf) (dvs := []) Fy cl.hr hN hv kpy by_ .nil px (tOf_pa (ha A outer s3 H3 E f c1 cl)) hy hy2 (hse _) (hpl _)).run pins s σ H Q I ⟨h1, ?_⟩
    have e0 : (fun (vs : List V) (H2 : Hp) => SpP M.F n g (vs ++ []) H2 Q E) = fun vs H2 => SpP M.F n g vs H2 Q E := by
      funext vs H2
      rw [List.append_nil]
    show tOf M W0 (RpL M.F) fs σ H (fun (vs : List V) (H2 : Hp) => SpP M.F n g (vs ++ []) H2 Q E)
    rw [e0]
    exact h
end
end
end PL
/-! PL, part w: a call without arguments; defs as values; defs and the law where lambdas are made. -/
namespace PL
open PySem PySem.Spec PyProof.Rows L2 LamX
section
variable {M : Fr} {W : WX} {X : Cx} {k : Nat} {pos : Pos}
@[reducible, simp] def eCall0 (g : List D → Res D) : Ev → Res (D × Ev) := fun ε => (g []).bind fun d => .ok (d, ε)
theorem pv_call0 (c : CO M W k X) {x : Str} {k' : Nat} {g : List D → Res D} {p : Pos} (d : DOk M.F X.prog X.w X.K X.mg X.base x k' 0 (SpP M.F 0 g)) (hk : k' ≤ k) (hg : Gl X x := by rfl) (hdb : (x == ("__debug__" : Str)) = false := by decide) :
    PV M W X (.Call (.Name x p) [] [] pos) (eCall0 g) := by
  obtain ⟨f, fd, ps, Fy, gm, kp, b⟩ := d.ex
  refine ⟨fun σ H Q => SpP M.F 0 g [] H Q (WE W σ), ⟨fun pins s σ H Q I h => ?_⟩, fun σ G H ε s Q hp => ?_⟩
  · refine wpAny_Call_Name_kw (ld_glob I hg gm ?_ hdb)
    exact PySem.W.callWith_K0 I.kIn kp (run_fnS (us := []) (vs := []) (E := WE W) Fy (c.hr.mono hk) b (L2N.passAt c.tk σ) I .nil h)
  · refine ⟨[], G, rfl, s.hg, RpL.nil, ?_⟩
    simp only [eCall0] at hp
    cases e2 : g [] with
    | stuck => rw [e2] at hp; exact hp
    | err cc =>
      rw [e2] at hp
      exact fun G' H' gr hg' => hp σ G' H' ε (s.grow gr hg'.sub hg'.ntb hg'.tabs) (gr.step _)
    | ok dd =>
      rw [e2] at hp
      exact fun v G' H' gr hg' r => hp v G' H' (s.grow gr hg'.sub hg'.ntb hg'.tabs) (gr.step _) r
/-- a def of the text as a value: the j-th of the table -/
theorem glC_fn {F : Fx} {mg : Str → Option Value} {x : Str} {j : Nat} (h : mg x = some (.ref (F.fa j))) : GlC F mg x (.fn j) := ⟨.ref (F.fa j), _, h, rfl, fun _ => by simp only [Rp]⟩
/-- .. and what is known of it -/
theorem dv_of {F : Fx} {P : Program} {w : World} {K : PySem.W.Frag} {mg : Str → Option Value} {base : Heap} {x : Str} {k k2 n j : Nat} {g : List D → Res D} (d : DOk F P w K mg base x k n (SpP F n g)) (hk : k ≤ k2) (h : mg x = some (.ref (F.fa j))) :
    ∃ (fd : FuncData) (ps : List Str), FnOk P w K mg base (L2N.CX P w) k2 (F.fa j) fd ps (SpP F n g) ∧ PySem.W.keepIn K (.ref (F.fa j)) = true ∧ Binds K fd ps [] := by
  obtain ⟨f, fd, ps, Fy, gm, kp, b⟩ := d.ex
  rw [h] at gm
  cases gm
  exact ⟨fd, ps, Fy.mono hk, kp, b⟩
end
/-- a def that makes lambdas: its code object, and the table of these -/
def FnCT (F : Fx) (K : PySem.W.Frag) (mg : Str → Option Value) (base : Heap) (y x : Str) (st : Stmt) : Prop := ∃ f fd cc P, Fun K x x st f fd ∧ mg y = some (.ref f) ∧ fd.code = .ref cc ∧ TabB base mg cc P ∧
  (P, x ++ ".<locals>." ++ "<lambda>") ∈ F.T ∧ ∀ p ∈ F.T, p.1 = P → p.2 = x ++ ".<locals>." ++ "<lambda>"
section
variable {P : Program} {w : World} {K : PySem.W.Frag} {mg : Str → Option Value} {base : Heap} {F : Fx}
theorem okC {x qual : Str} {st : Stmt} {f : Addr} {fd : FuncData} {N ps : List Str} {k : Nat} {sp : Sp} {cv : Value} (Fu : Fun K x qual st f fd) (hc : fd.code = cv) (S : FnScope N ps (defScope st)) (len : ∀ vs H Q E, sp vs H Q E → vs.length = ps.length)
    (hb : ∀ (A : Around) (outer : List Env) (s : Shared) (H : Hp) (vs : List V) (Q : VK) (E : XK), Room k (A.deeper (envOfC qual (defScope st) s.heap.objs.size f cv)) → sp vs H Q E →
      ∃ t, PSs (cxOf (L2N.CX P w) P w K mg base N qual (defScope st) f cv A outer s H E) (defBody st) t ∧ t { nx := fun _ H' => Q .non H', rt := Q } (L2.start N vs) H) :
    FnOk P w K mg base (L2N.CX P w) (k + 1) f fd ps sp := by
  obtain ⟨_, _, _, _, _, _, cdv, _, _, rfl, lk, hcd⟩ := Fu.ex
  have e : cdv = cv := hc
  subst e
  exact fn_of lk hcd S len fun A outer s H vs Q E => hb A outer s H vs Q E
/-- a body that keeps to its mirror keeps the promise -/
theorem pure_run {M : Fr} {N : List Str} {n : Nat} {g : List D → Res D} {body : Ev → Out} {X : Cx} {sts : List Stmt} {vs : List V} {Q : VK} {E : XK} {H : Hp} (hM : M = ⟨F, none⟩) (hN : n ≤ N.length) (hb : PSs' M (WE0 E) X sts body) (hg : ∀ ds, ds.length = n → g ds = outRes (body (startE N.length ds)))
    (h : SpP F n g vs H Q E) : ∃ t, PSs X sts t ∧ t { nx := fun _ H' => Q .non H', rt := Q } (L2.start N vs) H := by
  subst hM
  obtain ⟨ds, G, h1, h2, h3, h4⟩ := h
  obtain ⟨t, et, qt⟩ := hb
  refine ⟨t, et, qt _ G H (startE N.length ds) (sr_start h2 h3 (by omega)) _ ?_⟩
  rw [hg ds h1] at h4
  have grow : ∀ {G' H' : Hp} {O' : Addr → Prop}, Step G H (Own (L2.start N vs) (startE N.length ds)) G' H' O' → Grow G H G' H' := fun {G' H' O'} st =>
    ⟨st.gg, fun q o h nt => st.hh q o h nt (own_start (F := F)), st.hs, fun q o h => (st.gn q o h).elim .inl fun z => z.elim .inr fun z => (own_start (F := F) z).elim⟩
  cases e : body (startE N.length ds) with
  | nx ε' => rw [e] at h4; exact fun σ' G' H' s' st' => h4 .non G' H' (grow st') s'.hg (rp_non.mpr rfl)
  | rt d ε' => rw [e] at h4; exact fun v σ' G' H' s' st' r => h4 v G' H' (grow st') s'.hg r
  | err c => rw [e] at h4; exact fun σ' G' H' ε' s' st' => h4 G' H' (grow st') s'.hg
  | bk ε' => rw [e] at h4; exact h4.elim
  | ct ε' => rw [e] at h4; exact h4.elim
  | stuck => rw [e] at h4; exact h4.elim
theorem dok_pureT (hF : F.K = K) {y x : Str} {st : Stmt} {N ps : List Str} {k n : Nat} {g : List D → Res D} {body : Ev → Out} (T : FnCT F K mg base y x st) (S : FnScope N ps (defScope st)) (hn : ps.length = n) (hN : n ≤ N.length)
    (hbi : ∀ {f : Addr} {fd : FuncData}, Fun K x x st f fd → Binds K fd ps [])
    (hb : ∀ (f : Addr) (cdv : Value) (A : Around) (outer : List Env) (s : Shared) (H : Hp) (E : XK), CO ⟨F, none⟩ (WE0 E) k (cxOf (L2N.CX P w) P w K mg base N x (defScope st) f cdv A outer s H E) → TabC ⟨F, none⟩ (cxOf (L2N.CX P w) P w K mg base N x (defScope st) f cdv A outer s H E) →
      PSs' ⟨F, none⟩ (WE0 E) (cxOf (L2N.CX P w) P w K mg base N x (defScope st) f cdv A outer s H E) (defBody st) body)
    (hg : ∀ ds, ds.length = n → g ds = outRes (body (startE N.length ds))) : DOk F P w K mg base y (k + 1) n (SpP F n g) := by
  obtain ⟨f, fd, cc, P0, Fu, gm, hc, TB, mT, uT⟩ := T
  exact ⟨⟨f, fd, ps, okC Fu hc S (fun vs H Q E ⟨ds, G, h1, h2, h3, _⟩ => by rw [← h3.length, h1, hn]) fun A outer s H vs Q E hr h => pure_run rfl hN (hb f (.ref cc) A outer s H E (co_fn hF S hr) ⟨⟨cc, P0, TB, rfl, mT, uT⟩⟩) hg h, gm, Fu.kp, hbi Fu⟩⟩
/-- the law, entered where the tables are empty -/
def spT (K : PySem.W.Frag) (T : List (Addr × Str)) : Sp := fun vs H Q _ => ∃ (a : Addr) (ns : List Int), vs = [.ref a] ∧ SqL K H a (ns.map V.int) ∧ ns.length ≤ 63 ∧ (∀ p ∈ T, H p.1 = some (.tbl #[])) ∧ ∀ H', Q (.bl true) H'
def noTbl (H : Hp) : Hp := fun q => match H q with
  | some (.tbl _) => none
  | o => o
theorem noTbl_some {H : Hp} {q : Addr} {o : HO} (h : noTbl H q = some o) : H q = some o ∧ ∀ ps, o ≠ .tbl ps := by
  unfold noTbl at h
  cases e : H q with
  | none => rw [e] at h; cases h
  | some u =>
    rw [e] at h
    cases u with
    | tbl ps => cases h
    | _ => cases h; exact ⟨rfl, fun ps z => by cases z⟩
theorem noTbl_of {H : Hp} {q : Addr} {o : HO} (h : H q = some o) (n : ∀ ps, o ≠ .tbl ps) : noTbl H q = some o := by
  unfold noTbl
  rw [h]
  cases o with
  | tbl ps => exact absurd rfl (n ps)
  | _ => rfl
theorem fn_lawT (hF : F.K = K) {x : Str} {st : Stmt} {f : Addr} {fd : FuncData} {N ps : List Str} {k : Nat} {body : Ev → Out} {cv : Value} (Fu : Fun K x x st f fd) (hc : fd.code = cv) (S : FnScope N ps (defScope st)) (hn : ps.length = 1) (hN : 1 ≤ N.length)
    (hb : ∀ (A : Around) (outer : List Env) (s : Shared) (H : Hp) (E : XK), CO ⟨F, none⟩ (WE0 E) k (cxOf (L2N.CX P w) P w K mg base N x (defScope st) f cv A outer s H E) → PSs' ⟨F, none⟩ (WE0 E) (cxOf (L2N.CX P w) P w K mg base N x (defScope st) f cv A outer s H E) (defBody st) body)
    (hg : ∀ ns : List Int, ns.length ≤ 63 → outRes (body (startE N.length [.scr ns])) = .ok (.bl true)) : FnOk P w K mg base (L2N.CX P w) (k + 1) f fd ps (spT K F.T) := by
  refine okC Fu hc S (fun vs H Q E ⟨a, ns, h, _⟩ => by rw [h, hn]; rfl) fun A outer s H vs Q E hr h => ?_
  obtain ⟨a, ns, rfl, hS, hl, hT, q⟩ := h
  obtain ⟨t, et, qt⟩ := hb A outer s H E (co_fn hF S hr)
  have h2 : HG F (noTbl H) H := ⟨fun q o h => (noTbl_some h).1, fun q ps h => (noTbl_some h).2 ps rfl, fun p hp => TabS.nil (hT p hp)⟩
  have h3 : RpL F (noTbl H) [.scr ns] [.ref a] := by
    refine RpL.cons ?_ RpL.nil
    simp only [Rp]
    refine ⟨a, rfl, ?_⟩
    rw [hF]
    rcases hS with (z | ⟨o, z⟩) | z
    · exact .inl (.inl (noTbl_of z fun ps y => by cases y))
    · exact .inl (.inr ⟨o, noTbl_of z fun ps y => by cases y⟩)
    · exact .inr z
  refine ⟨t, et, qt _ _ H (startE N.length [.scr ns]) (sr_start h2 h3 (by simpa using hN)) _ ?_⟩
  have h4 := hg ns hl
  cases e : body (startE N.length [.scr ns]) with
  | nx ε' => rw [e] at h4; cases h4
  | rt d ε' =>
    rw [e] at h4
    simp only [outRes, Res.ok.injEq] at h4
    subst h4
    intro v σ' G' H' s' st' r
    rw [rp_bl] at r
    subst r
    exact q H'
  | err c => rw [e] at h4; cases h4
  | bk ε' => rw [e] at h4; cases h4
  | ct ε' => rw [e] at h4; cases h4
  | stuck => rw [e] at h4; cases h4
end
end PL
/-! PL, part y: portions as rational numbers. -/
namespace PL
open PySem L2
def rd (q : Rat) : D := .tup [.int q.num, .int (q.den : Int)]
theorem rat_nd (q : Rat) : (q.num : Rat) = q * (q.den : Rat) := by
  have h := Rat.mkRat_self q
  rw [Rat.mkRat_eq_div] at h
  have d : (q.den : Rat) ≠ 0 := by
    intro z
    have := Rat.natCast_eq_zero_iff.mp z
    exact q.den_nz this
  grind
theorem den_ne (q : Rat) : (q.den : Rat) ≠ 0 := fun z => q.den_nz (Rat.natCast_eq_zero_iff.mp z)
theorem lowP {t b : Int} (hb : 0 < b) : t.fdiv ((Nat.gcd t.natAbs b.natAbs : Nat) : Int) = ((t : Rat) / (b : Rat)).num ∧ b.fdiv ((Nat.gcd t.natAbs b.natAbs : Nat) : Int) = (((t : Rat) / (b : Rat)).den : Int) := by
  have e : (t : Rat) / (b : Rat) = mkRat t b.toNat := by
    rw [Rat.mkRat_eq_div]
    congr 1
    have h : ((b.toNat : Nat) : Int) = b := Int.toNat_of_nonneg (by omega)
    rw [← Rat.intCast_natCast, h]
  have bn : b.toNat ≠ 0 := by omega
  have en : b.natAbs = b.toNat := by omega
  rw [e, Rat.mkRat_def, dif_neg bn, Rat.normalize_eq, en]
  have f : ∀ x : Int, x.fdiv ((Nat.gcd t.natAbs b.toNat : Nat) : Int) = x / ((Nat.gcd t.natAbs b.toNat : Nat) : Int) := fun x => Int.fdiv_eq_ediv_of_nonneg _ (by omega)
  refine ⟨f t, ?_⟩
  rw [f b]
  show b / ((Nat.gcd t.natAbs b.toNat : Nat) : Int) = ((b.toNat / Nat.gcd t.natAbs b.toNat : Nat) : Int)
  rw [Int.natCast_ediv, Int.toNat_of_nonneg (by omega)]
structure Sz (q : Rat) : Prop where
  n : q.num.natAbs < 2 ^ 420
  d : q.den < 2 ^ 420
theorem log420 {x : Nat} (h : x < 2 ^ 420) : x.log2 < 420 := by
  by_cases h0 : x = 0
  · subst h0; decide
  · exact (Nat.log2_lt h0).mpr h
theorem mulOk420 {a b : Int} (ha : a.natAbs < 2 ^ 420) (hb : b.natAbs < 2 ^ 420) : mulOk a b = true := by
  have h1 := log420 ha
  have h2 := log420 hb
  simp only [mulOk, Bool.or_eq_true, decide_eq_true_eq]
  exact .inl (.inl (by omega))
theorem mul420 {a b : Nat} (ha : a < 2 ^ 420) (hb : b < 2 ^ 420) : a * b < 2 ^ 840 := by
  have c : a * b < 2 ^ 420 * 2 ^ 420 := Nat.mul_lt_mul'' ha hb
  rwa [← Nat.pow_add] at c
/-- q is so many D-th parts -/
def Bd (q : Rat) (D N : Nat) : Prop := 0 < D ∧ ∃ A : Int, q * (D : Rat) = (A : Rat) ∧ A.natAbs ≤ N
theorem Bd.self (q : Rat) : Bd q q.den q.num.natAbs := ⟨q.den_pos, q.num, (rat_nd q).symm, Nat.le_refl _⟩
theorem Bd.add {a b : Rat} {D N M : Nat} (x : Bd a D N) (y : Bd b D M) : Bd (a + b) D (N + M) := by
  obtain ⟨h, A, e, l⟩ := x
  obtain ⟨_, B, f, m⟩ := y
  refine ⟨h, A + B, ?_, by omega⟩
  rw [Rat.intCast_add]
  grind
theorem Bd.neg {a : Rat} {D N : Nat} (x : Bd a D N) : Bd (-a) D N := by
  obtain ⟨h, A, e, l⟩ := x
  refine ⟨h, -A, ?_, by omega⟩
  rw [Rat.intCast_neg]
  grind
theorem Bd.sub {a b : Rat} {D N M : Nat} (x : Bd a D N) (y : Bd b D M) : Bd (a - b) D (N + M) := by
  have := x.add y.neg
  rwa [← Rat.sub_eq_add_neg] at this
theorem Bd.mul {a b : Rat} {D E N M : Nat} (x : Bd a D N) (y : Bd b E M) : Bd (a * b) (D * E) (N * M) := by
  obtain ⟨h, A, e, l⟩ := x
  obtain ⟨h2, B, f, m⟩ := y
  refine ⟨Nat.mul_pos h h2, A * B, ?_, by rw [Int.natAbs_mul]; exact Nat.mul_le_mul l m⟩
  rw [Rat.intCast_mul, Rat.natCast_mul]
  grind
theorem Bd.up {a : Rat} {D N k : Nat} (x : Bd a D N) (hk : 0 < k) : Bd a (D * k) (N * k) := by
  obtain ⟨h, A, e, l⟩ := x
  refine ⟨Nat.mul_pos h hk, A * (k : Int), ?_, by rw [Int.natAbs_mul, Int.natAbs_natCast]; exact Nat.mul_le_mul_right _ l⟩
  rw [Rat.intCast_mul, Rat.natCast_mul, Rat.intCast_natCast]
  grind
theorem Bd.mono {a : Rat} {D N M : Nat} (x : Bd a D N) (h : N ≤ M) : Bd a D M := by
  obtain ⟨h0, A, e, l⟩ := x
  exact ⟨h0, A, e, by omega⟩
theorem Bd.nat (n : Nat) : Bd (n : Rat) 1 n := ⟨by decide, (n : Int), by rw [Rat.intCast_natCast]; grind, by omega⟩
theorem Bd.sz {q : Rat} {D N : Nat} (x : Bd q D N) (hD : D < 2 ^ 420) (hN : N < 2 ^ 420) : Sz q := by
  obtain ⟨h0, A, e, l⟩ := x
  have e2 : q.num * (D : Int) = A * (q.den : Int) := by
    apply Rat.intCast_inj.mp
    rw [Rat.intCast_mul, Rat.intCast_mul, Rat.intCast_natCast, Rat.intCast_natCast, rat_nd q]
    grind
  have e3 : q.num.natAbs * D = A.natAbs * q.den := by
    have := congrArg Int.natAbs e2
    rwa [Int.natAbs_mul, Int.natAbs_mul, Int.natAbs_natCast, Int.natAbs_natCast] at this
  have dv : q.den ∣ D := by
    have : q.den ∣ q.num.natAbs * D := ⟨A.natAbs, by rw [e3, Nat.mul_comm]⟩
    exact (Nat.Coprime.symm q.reduced).dvd_of_dvd_mul_left this
  have dl : q.den ≤ D := Nat.le_of_dvd h0 dv
  refine ⟨?_, Nat.lt_of_le_of_lt dl hD⟩
  have : q.num.natAbs ≤ A.natAbs := by
    have h1 : q.num.natAbs * D ≤ A.natAbs * D := by rw [e3]; exact Nat.mul_le_mul_left _ dl
    exact Nat.le_of_mul_le_mul_right h1 h0
  omega
theorem num_neg {q : Rat} : q.num < 0 ↔ q < 0 := by
  have := @Rat.num_nonneg q
  constructor
  · intro h
    refine Rat.not_le.mp fun z => ?_
    have := this.mpr z
    omega
  · intro h
    refine Int.not_le.mp fun z => ?_
    exact absurd (this.mp z) (Rat.not_le.mpr h)
/-- the program's comparison -/
theorem lead_lt (a b : Rat) : 0 < a.num * (b.den : Int) - b.num * (a.den : Int) ↔ b < a := by
  rw [Rat.lt_iff]
  omega
theorem lead_le (a b : Rat) : 0 ≤ a.num * (b.den : Int) - b.num * (a.den : Int) ↔ b ≤ a := by
  rw [Rat.le_iff]
  omega
theorem sub_neg (a b : Rat) : (a - b).num < 0 ↔ a < b := by
  rw [num_neg]
  grind
theorem sub_nonneg (a b : Rat) : 0 ≤ (a - b).num ↔ b ≤ a := by
  rw [Rat.num_nonneg]
  grind
end PL
namespace PL
theorem mul_as (a b : Rat) : ((a.num * b.num : Int) : Rat) / (((a.den : Int) * (b.den : Int) : Int) : Rat) = a * b := by
  have := rat_nd a; have := rat_nd b; have := den_ne a; have := den_ne b
  rw [Rat.intCast_mul, Rat.intCast_mul, Rat.intCast_natCast, Rat.intCast_natCast]
  grind
theorem add_as (a b : Rat) : ((a.num * (b.den : Int) + b.num * (a.den : Int) : Int) : Rat) / (((a.den : Int) * (b.den : Int) : Int) : Rat) = a + b := by
  have := rat_nd a; have := rat_nd b; have := den_ne a; have := den_ne b
  rw [Rat.intCast_add, Rat.intCast_mul, Rat.intCast_mul, Rat.intCast_mul, Rat.intCast_natCast, Rat.intCast_natCast]
  grind
theorem sub_as (a b : Rat) : ((a.num * (b.den : Int) - b.num * (a.den : Int) : Int) : Rat) / (((a.den : Int) * (b.den : Int) : Int) : Rat) = a - b := by
  have := rat_nd a; have := rat_nd b; have := den_ne a; have := den_ne b
  rw [Rat.intCast_sub, Rat.intCast_mul, Rat.intCast_mul, Rat.intCast_mul, Rat.intCast_natCast, Rat.intCast_natCast]
  grind
theorem div_as (a b : Rat) (h : 0 < b.num) : ((a.num * (b.den : Int) : Int) : Rat) / (((a.den : Int) * b.num : Int) : Rat) = a / b := by
  have := rat_nd a; have h2 := rat_nd b; have := den_ne a; have := den_ne b
  have hb : b ≠ 0 := fun z => by rw [z] at h; exact absurd h (by decide)
  rw [Rat.intCast_mul, Rat.intCast_mul, Rat.intCast_natCast, Rat.intCast_natCast]
  grind
theorem rest_as (a : Rat) : (((a.den : Int) - a.num : Int) : Rat) / ((a.den : Int) : Rat) = 1 - a := by
  have := rat_nd a; have := den_ne a
  rw [Rat.intCast_sub, Rat.intCast_natCast]
  grind
theorem share_as (a : Rat) (m : Nat) (h : 0 < m) : ((a.num : Int) : Rat) / (((a.den : Int) * (m : Int) : Int) : Rat) = a / (m : Rat) := by
  have := rat_nd a; have := den_ne a
  have hm : (m : Rat) ≠ 0 := fun z => by have := Rat.natCast_eq_zero_iff.mp z; omega
  rw [Rat.intCast_mul, Rat.intCast_natCast, Rat.intCast_natCast]
  grind
theorem rd_nat (m : Nat) : rd (m : Rat) = .tup [.int (m : Int), .int 1] := by
  unfold rd
  rw [Rat.num_natCast]
  simp
theorem rd_neg (q : Rat) : rd (-q) = .tup [.int (-q.num), .int (q.den : Int)] := by
  unfold rd
  rw [Rat.neg_num]
  rfl
end PL
namespace PL
open PySem L2
variable {ε ε1 ε2 ε3 : Ev} {d a b : D} {ds es : List D}
theorem eCB_ok {g : List D → Res D} {fs : Ev → Res (List D × Ev)} (h : fs ε = .ok (ds, ε1)) (h2 : g ds = .ok d) : eCB g fs ε = .ok (d, ε1) := by simp only [eCB, h, Res.bind_ok, h2]
theorem aCons_ok {f : Ev → Res (D × Ev)} {fs : Ev → Res (List D × Ev)} (h : f ε = .ok (d, ε1)) (h2 : fs ε1 = .ok (ds, ε2)) : aCons f fs ε = .ok (d :: ds, ε2) := by simp only [aCons, h, Res.bind_ok, h2]
theorem aNil_ok : aNil ε = .ok ([], ε) := rfl
theorem eL_ok {fs : Ev → Res (List D × Ev)} (h : fs ε = .ok (ds, ε1)) : eL fs ε = .ok (.lst ds, ε1) := by simp only [eL, h, Res.bind_ok]
theorem eTup_ok {fs : Ev → Res (List D × Ev)} (h : fs ε = .ok (ds, ε1)) : eTup fs ε = .ok (.tup ds, ε1) := by simp only [eTup, h, Res.bind_ok]
theorem eOp_ok {op : D → D → Res D} {fa fb : Ev → Res (D × Ev)} (h : fa ε = .ok (a, ε1)) (h2 : fb ε1 = .ok (b, ε2)) (h3 : op a b = .ok d) : eOp op fa fb ε = .ok (d, ε2) := by simp only [eOp, h, Res.bind_ok, h2, h3]
theorem eOpN_ok {op : D → D → Res (List D)} {fa fb : Ev → Res (D × Ev)} (h : fa ε = .ok (a, ε1)) (h2 : fb ε1 = .ok (b, ε2)) (h3 : op a b = .ok ds) : eOpN op fa fb ε = .ok (ds, ε2) := by simp only [eOpN, h, Res.bind_ok, h2, h3]
theorem eUn_ok {op : D → Res D} {fa : Ev → Res (D × Ev)} (h : fa ε = .ok (a, ε1)) (h3 : op a = .ok d) : eUn op fa ε = .ok (d, ε1) := by simp only [eUn, h, Res.bind_ok, h3]
theorem bOf_ok {f : Ev → Res (D × Ev)} {c : Bool} (h : f ε = .ok (.bl c, ε1)) : bOf f ε = .ok (c, ε1) := by simp only [bOf, h, Res.bind_ok, asB]
theorem bNot_ok {f : Ev → Res (Bool × Ev)} {c : Bool} (h : f ε = .ok (c, ε1)) : bNot f ε = .ok (!c, ε1) := by simp only [bNot, h, Res.bind_ok]
theorem sOwn_ok {i : Nat} {fs : Ev → Res (List D × Ev)} (h : fs ε = .ok (ds, ε1)) (hi : i < ε1.length) (h3 : ε1.set i (.ow ds) = ε2) : sOwn i fs ε = .nx ε2 := by simp only [sOwn, h, Res.out, hi, if_true, h3]
theorem sTg_ok {tgt : D → Ev → Res Ev} {f : Ev → Res (D × Ev)} (h : f ε = .ok (d, ε1)) (h2 : tgt d ε1 = .ok ε2) : sTg tgt f ε = .nx ε2 := by simp only [sTg, h, Res.out, h2, Res.ne]
theorem sIf_t {c : Ev → Res (Bool × Ev)} {f g : Ev → Out} {o : Out} (h : c ε = .ok (true, ε1)) (h2 : f ε1 = o) : sIf c f g ε = o := by simp only [sIf, h, Res.out, if_true, h2]
theorem sIf_f {c : Ev → Res (Bool × Ev)} {f g : Ev → Out} {o : Out} (h : c ε = .ok (false, ε1)) (h2 : g ε1 = o) : sIf c f g ε = o := by simp only [sIf, h, Res.out, if_false, h2, Bool.false_eq_true]
theorem eIf_t {c : Ev → Res (Bool × Ev)} {f g : Ev → Res (D × Ev)} {r : Res (D × Ev)} (h : c ε = .ok (true, ε1)) (h2 : f ε1 = r) : eIf c f g ε = r := by simp only [eIf, h, Res.bind_ok, if_true, h2]
theorem eIf_f {c : Ev → Res (Bool × Ev)} {f g : Ev → Res (D × Ev)} {r : Res (D × Ev)} (h : c ε = .ok (false, ε1)) (h2 : g ε1 = r) : eIf c f g ε = r := by simp only [eIf, h, Res.bind_ok, if_false, h2, Bool.false_eq_true]
/-- if not f(..): return False — goes on -/
theorem sIfN_ok {f : Ev → Res (D × Ev)} {g : Ev → Out} (h : f ε = .ok (.bl true, ε1)) : sIf (bNot (bOf f)) g (fun ε => .nx ε) ε = .nx ε1 := sIf_f (bNot_ok (bOf_ok h)) rfl
theorem sAppend_ok {i : Nat} {f : Ev → Res (D × Ev)} (h0 : getOw ε i = .ok es) (h : f ε = .ok (d, ε1)) (h1 : getOw ε1 i = .ok ds) (hl : ds.length ≤ 1000000) (h3 : ε1.set i (.ow (ds ++ [d])) = ε2) : sAppend i f ε = .nx ε2 := by simp only [sAppend, h0, h, h1, Res.out, hl, if_true, h3]
theorem sFor_ok {src : Ev → Res (List D × Ev)} {tgt : D → Ev → Res Ev} {body : Ev → Out} {o : Out} (h : src ε = .ok (ds, ε1)) (h2 : forF tgt body ds ε1 = o) : sFor src tgt body ε = o := by simp only [sFor, h, Res.out, h2]
end PL
namespace PL
open PySem PySem.Spec PyProof.Rows L2
open Sem (wp)
def iEnumT2 (K : PySem.W.Frag) (ta : TA) : TI := fun σ H R => ta σ H fun vs H1 => ∃ a xs k, vs = [.ref a, .int k] ∧ (-(2 ^ 63) ≤ k ∧ k < 2 ^ 63) ∧ SqT K H1 a xs ∧ R (IteT K k a) H1
theorem pi_enumT2 {X : Cx} {e e2 : Expr} {ta : TA} {p pos tpos : Pos} {elts : List Expr} {kk : Nat} (hg : Gl X "enumerate") (hm : X.mg "enumerate" = none) (ha : PA X [e, e2] ta)
    (hs : starEach [e, e2] X.env = (false, eval e X.env) :: starEach [e2] X.env := by rfl) (hpl : (backTo pos (starEach [e2] X.env)).any (·.1) = false := by rfl) :
    PI X (.Tuple elts kk tpos) (.Call (.Name "enumerate" p) [e, e2] [] pos) (iEnumT2 X.K ta) := by
  refine ⟨fun pins s σ H R I h => ?_⟩
  refine Call_ (ld_blt I hg hm boot_enumerate (PyProof.Rows.callWith_type1 (thn (ha.run pos pins s σ H _ I h) fun us s1 ⟨vs, H1, I1, r1, q1⟩ => ?_) hs hpl))
  obtain ⟨a, xs, c, ex, ⟨c0, c1⟩, hq, q⟩ := q1
  subst ex
  cases r1 with
  | cons r rr =>
    cases rr with
    | cons r' rr =>
      cases rr
      cases r
      obtain ⟨t, rfl⟩ := r'
      obtain ⟨its, rv, p', hz⟩ := I1.tuple hq
      refine enum_begins (begins_tuple a its.toArray) p' c0 c1 fun h' he hit hsz hk => wpAny_pyIter_enum he ?_
      have I2 : Inv X pins σ H1 { s1 with heap := h' } := I1.kept (t' := s1.toks) hk
      refine ⟨s1.heap.objs.size + 1, [s1.heap.objs.size + 1, s1.heap.objs.size], _, _, H1, rfl, I2, turn_enumT c a (s1.heap.objs.size + 1) s1.heap.objs.size, ⟨⟨.none, by simpa using he⟩, ⟨_, hit, rfl, rfl⟩, Nat.succ_ne_self _⟩, fun b hb => ?_, q⟩
      have hle : s1.heap.objs.size ≤ b := by
        rcases (by simpa using hb : b = s1.heap.objs.size + 1 ∨ b = s1.heap.objs.size) with z | z
        · rw [z]; exact Nat.le_add_right _ _
        · rw [z]; exact Nat.le_refl _
      exact I1.fpOk hle (I1.hok.fresh hle)
section
variable {M : Fr} {W : WX} {X : Cx} {k : Nat} {e e2 : Expr} {pos : Pos}
@[simp] def fEnum2 : List D → Res (List D)
  | [.tup ds, .int 1] => .ok (enumD 1 ds)
  | _ => .stuck
theorem pit_enum2 (c : CO M W k X) {p tpos : Pos} {elts : List Expr} {kk : Nat} {fs} (hm : X.mg "enumerate" = none) (ha : PA' M W X [e, e2] fs) (hg : Gl X "enumerate" := by rfl) (hs : starEach [e, e2] X.env = (false, eval e X.env) :: starEach [e2] X.env := by rfl) (hpl : (backTo pos (starEach [e2] X.env)).any (·.1) = false := by rfl) :
    PIt M W X (.Tuple elts kk tpos) (.Call (.Name "enumerate" p) [e, e2] [] pos) (iCall fEnum2 fs) := by
  obtain ⟨⟨t, et, qt⟩, hl⟩ := ha
  refine ⟨_, pi_enumT2 hg hm et hs hpl, fun σ G H ε s Q hp => ?_⟩
  simp only [iCall] at hp
  cases e1 : fs ε with
  | stuck => rw [e1] at hp; exact hp.elim
  | err cc =>
    rw [e1] at hp
    refine qt σ G H ε s _ ?_
    rw [e1]; exact hp
  | ok p =>
    rw [e1] at hp
    simp only [Res.bind_ok] at hp
    unfold fEnum2 at hp
    split at hp
    · rename_i ds ej
      refine qt σ G H ε s _ ?_
      rw [e1]
      intro vs G1 H1 s1 st1 rs
      rw [ej] at rs
      obtain ⟨v, w, rfl, r, r2⟩ := rpL2 rs
      rw [rp_int] at r2; subst r2
      obtain ⟨a, ws, rfl, ha, l⟩ := rp_tup.mp r
      rw [← c.hK] at ha
      refine ⟨a, ws, 1, rfl, ⟨by decide, by decide⟩, sqT_mono s1.sub ha, hp _ G1 H1 s1 st1 ?_⟩
      intro i G2 H2 s2 g2
      have hs : SqT X.K H2 a ws := sqT_mono s2.sub (sqT_mono g2 ha)
      refine ⟨fun d e => ?_, fun e => ⟨ws, hs, by rw [← l.length]; rw [enumD_len] at e; exact e⟩⟩
      obtain ⟨d0, e2, rfl⟩ := enumD_get ds 1 i d e
      obtain ⟨v, e3, r⟩ := l.get e2
      refine ⟨⟨ws, v, hs, e3⟩, fun x H' y => ?_⟩
      obtain ⟨T, x0, rfl, hT, rfl, y⟩ := y
      have ex := y ws hs
      rw [e3] at ex
      cases ex
      exact new_pair s2 hT (rp_int.mpr (by simp)) (r.mono g2)
    · exact hp.elim
end
end PL
namespace W64
open PySem L2 PL
@[reducible] def b_is_whole : Ev → Out := (sRet (eAnd (eUn (fun d => fIsi "int" [d]) (eV 0)) (eAnd (eNot (eUn (fun d => fIsi "bool" [d]) (eV 0))) (eCh2 dLe dLe (eV 1) (eV 0) (eV 2)))))
def g_is_whole (ds : List D) : Res D := outRes (b_is_whole (startE 3 ds))
@[reducible] def b_need_whole : Ev → Out := (sIf (bNot (bOf (eCB g_is_whole (aCons (eV 0) (aCons (eV 1) (aCons (eV 2) aNil)))))) (fun _ => .err 0) (fun ε => .nx ε))
def g_need_whole (ds : List D) : Res D := outRes (b_need_whole (startE 3 ds))
@[reducible] def b_is_tuple_of : Ev → Out := (sRet (eAnd (eUn (fun d => fIsi "tuple" [d]) (eV 0)) (eCh2 dLe dLe (eV 1) (eCB fLen (aCons (eV 0) aNil)) (eV 2))))
def g_is_tuple_of (ds : List D) : Res D := outRes (b_is_tuple_of (startE 3 ds))
@[reducible] def b_is_portion : Ev → Out := (sSeq (sIf (bOr (bNot (bOf (eCB g_is_tuple_of (aCons (eV 0) (aCons (eC (.int 2)) (aCons (eC (.int 2)) aNil)))))) (bOr (bNot (bOf (eCB g_is_whole (aCons (eOp dIx (eV 0) (eC (.int 0))) (aCons (eUn dNeg (eC (.int 1000000000000000000000000000000000000000000000000000000000000))) (aCons (eC (.int 1000000000000000000000000000000000000000000000000000000000000)) aNil)))))) (bNot (bOf (eCB g_is_whole (aCons (eOp dIx (eV 0) (eC (.int 1))) (aCons (eC (.int 1)) (aCons (eC (.int 1000000000000000000000000000000000000000000000000000000000000)) aNil)))))))) (sRet (eC (.bl false))) (fun ε => .nx ε))
    (sRet (eOp dEq (eCB fGcd (aCons (eOp dIx (eV 0) (eC (.int 0))) (aCons (eOp dIx (eV 0) (eC (.int 1))) aNil))) (eC (.int 1)))))
def g_is_portion (ds : List D) : Res D := outRes (b_is_portion (startE 1 ds))
@[reducible] def b_lowest : Ev → Out := (sSeq (sTg (tName 2) (eCB fGcd (aCons (eV 0) (aCons (eV 1) aNil))))
    (sSeq (sTg (tName 2) (eIf (bOf (eOp dGt (eV 1) (eC (.int 0)))) (eV 2) (eUn dNeg (eV 2))))
    (sRet (eTup (aCons (eOp dDiv (eV 0) (eV 2)) (aCons (eOp dDiv (eV 1) (eV 2)) aNil))))))
def g_lowest (ds : List D) : Res D := outRes (b_lowest (startE 3 ds))
@[reducible] def b_plus : Ev → Out := (sRet (eCB g_lowest (aCons (eOp dAdd (eOp dMul (eOp dIx (eV 0) (eC (.int 0))) (eOp dIx (eV 1) (eC (.int 1)))) (eOp dMul (eOp dIx (eV 1) (eC (.int 0))) (eOp dIx (eV 0) (eC (.int 1))))) (aCons (eOp dMul (eOp dIx (eV 0) (eC (.int 1))) (eOp dIx (eV 1) (eC (.int 1)))) aNil))))
def g_plus (ds : List D) : Res D := outRes (b_plus (startE 2 ds))
@[reducible] def b_times : Ev → Out := (sRet (eCB g_lowest (aCons (eOp dMul (eOp dIx (eV 0) (eC (.int 0))) (eOp dIx (eV 1) (eC (.int 0)))) (aCons (eOp dMul (eOp dIx (eV 0) (eC (.int 1))) (eOp dIx (eV 1) (eC (.int 1)))) aNil))))
def g_times (ds : List D) : Res D := outRes (b_times (startE 2 ds))
@[reducible] def b_is_small : Ev → Out := (sRet (eAnd (eCB g_is_portion (aCons (eV 0) aNil)) (eCh3 dLe dLe dLe (eC (.int 0)) (eOp dIx (eV 0) (eC (.int 0))) (eOp dIx (eV 0) (eC (.int 1))) (eC (.int 100)))))
def g_is_small (ds : List D) : Res D := outRes (b_is_small (startE 1 ds))
@[reducible] def b_quotient : Ev → Out := (sRet (eCB g_lowest (aCons (eOp dMul (eOp dIx (eV 0) (eC (.int 0))) (eOp dIx (eV 1) (eC (.int 1)))) (aCons (eOp dMul (eOp dIx (eV 0) (eC (.int 1))) (eOp dIx (eV 1) (eC (.int 0)))) aNil))))
def g_quotient (ds : List D) : Res D := outRes (b_quotient (startE 2 ds))
@[reducible, simp] def S1_total (ε : Ev) : Res (List D × Ev) := (iSeq (eV 0)) ε
@[reducible, simp] def T1_total (d : D) (ε : Ev) : Res Ev := (tName 2) d ε
@[reducible, simp] def B1_total (ε : Ev) : Out := (sTg (tName 1) (eCB g_plus (aCons (eV 1) (aCons (eV 2) aNil)))) ε
@[reducible] def b_total : Ev → Out := (sSeq (sTg (tName 1) (eTup (aCons (eC (.int 0)) (aCons (eC (.int 1)) aNil))))
    (sSeq (sFor S1_total T1_total B1_total)
    (sRet (eV 1))))
def g_total (ds : List D) : Res D := outRes (b_total (startE 3 ds))
@[reducible, simp] def CS1_need_lives (ε : Ev) : Res (List D × Ev) := (iSeq (eV 0)) ε
@[reducible, simp] def CT1_need_lives (d : D) (ε : Ev) : Res Ev := (tName 1) d ε
@[reducible, simp] def CP1_need_lives (ε : Ev) : Res (Bool × Ev) := (fun ε => .ok (true, ε)) ε
@[reducible, simp] def CE1_need_lives (ε : Ev) : Res (D × Ev) := (eCB g_is_small (aCons (eV 1) aNil)) ε
@[reducible] def b_need_lives : Ev → Out := (sSeq (sIf (bOr (bNot (bOf (eCB g_is_tuple_of (aCons (eV 0) (aCons (eC (.int 1)) (aCons (eC (.int 12)) aNil)))))) (bNot (bOf (eCB fAll (aCons (eL (eComp [1] CS1_need_lives CT1_need_lives CP1_need_lives CE1_need_lives)) aNil))))) (fun _ => .err 1) (fun ε => .nx ε))
    (sIf (bOr (bOf (eOp dNe (eCB g_total (aCons (eV 0) aNil)) (eTup (aCons (eC (.int 1)) (aCons (eC (.int 1)) aNil))))) (bOf (eOp dEq (eOp dIx (eOp dIx (eV 0) (eUn dNeg (eC (.int 1)))) (eC (.int 0))) (eC (.int 0))))) (fun _ => .err 1) (fun ε => .nx ε)))
def g_need_lives (ds : List D) : Res D := outRes (b_need_lives (startE 2 ds))
@[reducible, simp] def CS1_news_in (ε : Ev) : Res (List D × Ev) := (iCall fEnum2 (aCons (eV 0) (aCons (eC (.int 1)) aNil))) ε
@[reducible, simp] def CT1_news_in (d : D) (ε : Ev) : Res Ev := (tTupD (tsCons (tName 4) (tsCons (tName 5) tsNil))) d ε
@[reducible, simp] def CP1_news_in (ε : Ev) : Res (Bool × Ev) := (bOf (eOp dLe (eV 4) (eV 3))) ε
@[reducible, simp] def CE1_news_in (ε : Ev) : Res (D × Ev) := (eCB g_times (aCons (eV 5) (aCons (eOpV dIx 2 (eOp dSub (eV 3) (eV 4))) aNil))) ε
@[reducible, simp] def S1_news_in (ε : Ev) : Res (List D × Ev) := (iCall fRange (aCons (eC (.int 1)) (aCons (eOp dAdd (eV 1) (eC (.int 1))) aNil))) ε
@[reducible, simp] def T1_news_in (d : D) (ε : Ev) : Res Ev := (tName 3) d ε
@[reducible, simp] def B1_news_in (ε : Ev) : Out := (sAppend 2 (eCB g_total (aCons (eL (eComp [4, 5] CS1_news_in CT1_news_in CP1_news_in CE1_news_in)) aNil))) ε
@[reducible] def b_news_in : Ev → Out := (sSeq (sOwn 2 (aCons (eTup (aCons (eC (.int 1)) (aCons (eC (.int 1)) aNil))) aNil))
    (sSeq (sFor S1_news_in T1_news_in B1_news_in)
    (sRet (eZ 2))))
def g_news_in (ds : List D) : Res D := outRes (b_news_in (startE 6 ds))
@[reducible, simp] def CS1_longer_in (ε : Ev) : Res (List D × Ev) := (iCall fRange (aCons (eCB fLen (aCons (eV 0) aNil)) aNil)) ε
@[reducible, simp] def CT1_longer_in (d : D) (ε : Ev) : Res Ev := (tName 1) d ε
@[reducible, simp] def CP1_longer_in (ε : Ev) : Res (Bool × Ev) := (fun ε => .ok (true, ε)) ε
@[reducible, simp] def CE1_longer_in (ε : Ev) : Res (D × Ev) := (eCB g_total (aCons (eSl (eV 0) (oS (eV 1)) oN) aNil)) ε
@[reducible] def b_longer_in : Ev → Out := (sRet (eL (eComp [1] CS1_longer_in CT1_longer_in CP1_longer_in CE1_longer_in)))
def g_longer_in (ds : List D) : Res D := outRes (b_longer_in (startE 2 ds))
@[reducible, simp] def CS1_mean_in (ε : Ev) : Res (List D × Ev) := (iCall fEnum2 (aCons (eV 0) (aCons (eC (.int 1)) aNil))) ε
@[reducible, simp] def CT1_mean_in (d : D) (ε : Ev) : Res Ev := (tTupD (tsCons (tName 1) (tsCons (tName 2) tsNil))) d ε
@[reducible, simp] def CP1_mean_in (ε : Ev) : Res (Bool × Ev) := (fun ε => .ok (true, ε)) ε
@[reducible, simp] def CE1_mean_in (ε : Ev) : Res (D × Ev) := (eCB g_times (aCons (eTup (aCons (eV 1) (aCons (eC (.int 1)) aNil))) (aCons (eV 2) aNil))) ε
@[reducible] def b_mean_in : Ev → Out := (sRet (eCB g_total (aCons (eL (eComp [1, 2] CS1_mean_in CT1_mean_in CP1_mean_in CE1_mean_in)) aNil)))
def g_mean_in (ds : List D) : Res D := outRes (b_mean_in (startE 3 ds))
@[reducible] def b_need_both : Ev → Out := (sSeq (sDrop (eCB g_need_lives (aCons (eV 0) aNil)))
    (sDrop (eCB g_need_whole (aCons (eV 1) (aCons (eC (.int 0)) (aCons (eC (.int 30)) aNil))))))
def g_need_both (ds : List D) : Res D := outRes (b_need_both (startE 2 ds))
@[reducible] def b_new_chances : Ev → Out := (sSeq (sDrop (eCB g_need_both (aCons (eV 0) (aCons (eV 1) aNil))))
    (sRet (eCB fTuple (aCons (eCB g_news_in (aCons (eV 0) (aCons (eV 1) aNil))) aNil))))
def g_new_chances (ds : List D) : Res D := outRes (b_new_chances (startE 2 ds))
@[reducible] def b_count_new : Ev → Out := (sSeq (sDrop (eCB g_need_both (aCons (eV 0) (aCons (eV 1) aNil))))
    (sRet (eCB g_total (aCons (eSl (eCB g_news_in (aCons (eV 0) (aCons (eV 1) aNil))) (oS (eC (.int 1))) oN) aNil))))
def g_count_new (ds : List D) : Res D := outRes (b_count_new (startE 2 ds))
@[reducible] def b_mean_life : Ev → Out := (sSeq (sDrop (eCB g_need_lives (aCons (eV 0) aNil)))
    (sRet (eCB g_mean_in (aCons (eV 0) aNil))))
def g_mean_life (ds : List D) : Res D := outRes (b_mean_life (startE 1 ds))
@[reducible, simp] def CS1_ages_at (ε : Ev) : Res (List D × Ev) := (iCall fEnum (aCons (eV 3) aNil)) ε
@[reducible, simp] def CT1_ages_at (d : D) (ε : Ev) : Res Ev := (tTupD (tsCons (tName 4) (tsCons (tName 5) tsNil))) d ε
@[reducible, simp] def CP1_ages_at (ε : Ev) : Res (Bool × Ev) := (fun ε => .ok (true, ε)) ε
@[reducible, simp] def CE1_ages_at (ε : Ev) : Res (D × Ev) := (eIf (bOf (eOp dLe (eV 4) (eV 1))) (eCB g_times (aCons (eOp dIx (eV 2) (eOp dSub (eV 1) (eV 4))) (aCons (eV 5) aNil))) (eTup (aCons (eC (.int 0)) (aCons (eC (.int 1)) aNil)))) ε
@[reducible] def b_ages_at : Ev → Out := (sSeq (sDrop (eCB g_need_both (aCons (eV 0) (aCons (eV 1) aNil))))
    (sSeq (sTg (tName 2) (eCB g_news_in (aCons (eV 0) (aCons (eV 1) aNil))))
    (sSeq (sTg (tName 3) (eCB g_longer_in (aCons (eV 0) aNil)))
    (sRet (eCB fTuple (aCons (eL (eComp [4, 5] CS1_ages_at CT1_ages_at CP1_ages_at CE1_ages_at)) aNil))))))
def g_ages_at (ds : List D) : Res D := outRes (b_ages_at (startE 6 ds))
@[reducible, simp] def CS1_long_ages (ε : Ev) : Res (List D × Ev) := (iSeq (eCB g_longer_in (aCons (eV 0) aNil))) ε
@[reducible, simp] def CT1_long_ages (d : D) (ε : Ev) : Res Ev := (tName 2) d ε
@[reducible, simp] def CP1_long_ages (ε : Ev) : Res (Bool × Ev) := (fun ε => .ok (true, ε)) ε
@[reducible, simp] def CE1_long_ages (ε : Ev) : Res (D × Ev) := (eCB g_quotient (aCons (eV 2) (aCons (eV 1) aNil))) ε
@[reducible] def b_long_ages : Ev → Out := (sSeq (sDrop (eCB g_need_lives (aCons (eV 0) aNil)))
    (sSeq (sTg (tName 1) (eCB g_mean_in (aCons (eV 0) aNil)))
    (sRet (eCB fTuple (aCons (eL (eComp [2] CS1_long_ages CT1_long_ages CP1_long_ages CE1_long_ages)) aNil)))))
def g_long_ages (ds : List D) : Res D := outRes (b_long_ages (startE 3 ds))
@[reducible] def b1__law_cup : Ev → Out := (sTg (tName 1) (eCB fAbs (aCons (eOp dIx (eOp dAdd (eL (eCN fList (aCons (eV 0) aNil))) (eL (aCons (eC (.int 0)) aNil))) (eC (.int 0))) aNil)))
@[reducible] def b2__law_cup : Ev → Res (List D × Ev) := (aCons (eIf (bOf (eOp dGe (eV 1) (eOp dPow (eC (.int 10)) (eC (.int 18))))) (eOp dDiv (eV 1) (eC (.int 223))) (eC (.int 0))) (aCons (eOp dAdd (eOp dMod (eCB fInt (aCons (eOp dAdd (eOp dMul (eV 1) (eC (.int 467))) (eC (.int 7151))) aNil)) (eC (.int 99901))) (eC (.int 331))) aNil))
def g__law_cup (ds : List D) : Res (List D) := match b1__law_cup (startE 2 ds) with
  | .nx ε => (b2__law_cup ε).bind fun p => .ok p.1
  | _ => .stuck
@[reducible] def b__law_roll : Ev → Out := (sSeq (sIf (bOf (eOp dGt (eOpV dIx 0 (eC (.int 0))) (eC (.int 0)))) (sSeq (sTg (tName 2) (eOp dMod (eCB fInt (aCons (eOpV dIx 0 (eC (.int 0))) aNil)) (eV 1)))
    (sSeq (sSetIx 0 (eOp dDiv (eOpV dIx 0 (eC (.int 0))) (eV 1)) (eC (.int 0)))
    (sRet (eV 2)))) (fun ε => .nx ε))
    (sSeq (sSetIx 0 (eOp dMod (eCB fInt (aCons (eOp dAdd (eOp dMul (eOpV dIx 0 (eC (.int 1))) (eC (.int 103))) (eC (.int 1823))) aNil)) (eC (.int 99901))) (eC (.int 1)))
    (sRet (eOp dMod (eCB fInt (aCons (eOp dDiv (eOpV dIx 0 (eC (.int 1))) (eC (.int 23))) aNil)) (eV 1)))))
def g__law_roll (cs ds : List D) : Res (D × List D) := outC (b__law_roll (startC 3 cs ds))
@[reducible] def b__law_some : Ev → Out := (sRet (eOp dIx (eV 1) (eCallC 0 g__law_roll (aCons (eCB fLen (aCons (eV 1) aNil)) aNil))))
def g__law_some (cs ds : List D) : Res (D × List D) := outC (b__law_some (startC 2 cs ds))
@[reducible] def b__law_sort : Ev → Out := (sSeq (sIf (bOr (bOf (eOp dIsN (eV 0) (eC .non))) (bOf (eUn (fun d => fIsi "bool" [d]) (eV 0)))) (sRet (eIf (bOf (eOp dIsN (eV 0) (eC .non))) (eC (.int 0)) (eC (.int 1)))) (fun ε => .nx ε))
    (sSeq (sIf (bOr (bOf (eUn (fun d => fIsi "int" [d]) (eV 0))) (bOf (eUn (fun d => fIsi "str" [d]) (eV 0)))) (sRet (eIf (bOf (eUn (fun d => fIsi "int" [d]) (eV 0))) (eC (.int 2)) (eC (.int 3)))) (fun ε => .nx ε))
    (sRet (eIf (bOf (eUn (fun d => fIsi "tuple" [d]) (eV 0))) (eC (.int 4)) (eIf (bOf (eUn (fun d => fIsi "list" [d]) (eV 0))) (eC (.int 5)) (eC (.int 6)))))))
def g__law_sort (ds : List D) : Res D := outRes (b__law_sort (startE 1 ds))
@[reducible, simp] def CS1__law_like (rec : List D → Res D) (ε : Ev) : Res (List D × Ev) := (iCall fZip (aCons (eV 0) (aCons (eV 1) aNil))) ε
@[reducible, simp] def CT1__law_like (rec : List D → Res D) (d : D) (ε : Ev) : Res Ev := (tTupD (tsCons (tName 3) (tsCons (tName 4) tsNil))) d ε
@[reducible, simp] def CP1__law_like (rec : List D → Res D) (ε : Ev) : Res (Bool × Ev) := (bNot (bOf (eCB rec (aCons (eV 3) (aCons (eV 4) aNil))))) ε
@[reducible, simp] def CE1__law_like (rec : List D → Res D) (ε : Ev) : Res (D × Ev) := (eC (.int 1)) ε
@[reducible] def b__law_like (rec : List D → Res D) : Ev → Out := (sSeq (sTg (tName 2) (eCB g__law_sort (aCons (eV 1) aNil)))
    (sSeq (sIf (bOr (bOf (eOp dNe (eCB g__law_sort (aCons (eV 0) aNil)) (eV 2))) (bOf (eOp dEq (eV 2) (eC (.int 6))))) (sRet (eC (.bl false))) (fun ε => .nx ε))
    (sSeq (sIf (bOf (eOp (dIn false) (eV 2) (eTup (aCons (eC (.int 4)) (aCons (eC (.int 5)) aNil))))) (sRet (eAnd (eOp dEq (eCB fLen (aCons (eV 0) aNil)) (eCB fLen (aCons (eV 1) aNil))) (eOp dEq (eL (eComp [3, 4] (CS1__law_like rec) (CT1__law_like rec) (CP1__law_like rec) (CE1__law_like rec))) (eL aNil)))) (fun ε => .nx ε))
    (sRet (eOp dEq (eV 0) (eV 1))))))
def g__law_like : Nat → List D → Res D := recG 5 b__law_like
@[reducible, simp] def S1__law_low (ε : Ev) : Res (List D × Ev) := (iCall fRange (aCons (eC (.int 2000)) aNil)) ε
@[reducible, simp] def T1__law_low (d : D) (ε : Ev) : Res Ev := (tName 4) d ε
@[reducible, simp] def B1__law_low (ε : Ev) : Out := (sSeq (sIf (bOf (eOp dEq (eV 3) (eC (.int 0)))) (sRet (eIf (bOf (eOp dGt (eV 1) (eC (.int 0)))) (eTup (aCons (eOp dDiv (eV 0) (eV 2)) (aCons (eOp dDiv (eV 1) (eV 2)) aNil))) (eTup (aCons (eOp dDiv (eUn dNeg (eV 0)) (eV 2)) (aCons (eOp dDiv (eUn dNeg (eV 1)) (eV 2)) aNil))))) (fun ε => .nx ε))
    (sPar2 2 3 (slP (eV 3)) (slP (eOp dMod (eCB fInt (aCons (eV 2) aNil)) (eV 3))))) ε
@[reducible] def b__law_low : Ev → Out := (sSeq (sPar2 2 3 (slP (eCB fAbs (aCons (eV 0) aNil))) (slP (eCB fAbs (aCons (eV 1) aNil))))
    (sSeq (sFor S1__law_low T1__law_low B1__law_low)
    (sRet (eTup (aCons (eV 0) (aCons (eV 1) aNil))))))
def g__law_low (ds : List D) : Res D := outRes (b__law_low (startE 5 ds))
@[reducible] def b__law_plus : Ev → Out := (sRet (eCB g__law_low (aCons (eOp dAdd (eOp dMul (eOp dIx (eV 0) (eC (.int 0))) (eOp dIx (eV 1) (eC (.int 1)))) (eOp dMul (eOp dIx (eV 1) (eC (.int 0))) (eOp dIx (eV 0) (eC (.int 1))))) (aCons (eOp dMul (eOp dIx (eV 0) (eC (.int 1))) (eOp dIx (eV 1) (eC (.int 1)))) aNil))))
def g__law_plus (ds : List D) : Res D := outRes (b__law_plus (startE 2 ds))
@[reducible] def b__law_times : Ev → Out := (sRet (eCB g__law_low (aCons (eOp dMul (eOp dIx (eV 0) (eC (.int 0))) (eOp dIx (eV 1) (eC (.int 0)))) (aCons (eOp dMul (eOp dIx (eV 0) (eC (.int 1))) (eOp dIx (eV 1) (eC (.int 1)))) aNil))))
def g__law_times (ds : List D) : Res D := outRes (b__law_times (startE 2 ds))
@[reducible] def b__law_less : Ev → Out := (sRet (eCB g__law_low (aCons (eOp dSub (eOp dMul (eOp dIx (eV 0) (eC (.int 0))) (eOp dIx (eV 1) (eC (.int 1)))) (eOp dMul (eOp dIx (eV 1) (eC (.int 0))) (eOp dIx (eV 0) (eC (.int 1))))) (aCons (eOp dMul (eOp dIx (eV 0) (eC (.int 1))) (eOp dIx (eV 1) (eC (.int 1)))) aNil))))
def g__law_less (ds : List D) : Res D := outRes (b__law_less (startE 2 ds))
@[reducible, simp] def S1__law_sum (ε : Ev) : Res (List D × Ev) := (iSeq (eV 0)) ε
@[reducible, simp] def T1__law_sum (d : D) (ε : Ev) : Res Ev := (tName 2) d ε
@[reducible, simp] def B1__law_sum (ε : Ev) : Out := (sTg (tName 1) (eCB g__law_plus (aCons (eV 1) (aCons (eV 2) aNil)))) ε
@[reducible] def b__law_sum : Ev → Out := (sSeq (sTg (tName 1) (eTup (aCons (eC (.int 0)) (aCons (eC (.int 1)) aNil))))
    (sSeq (sFor S1__law_sum T1__law_sum B1__law_sum)
    (sRet (eV 1))))
def g__law_sum (ds : List D) : Res D := outRes (b__law_sum (startE 3 ds))
@[reducible] def b__law_no_small : Ev → Out := (sRet (eL (aCons (eC .non) (aCons (eTup aNil) (aCons (eTup (aCons (eC (.int 1)) aNil)) (aCons (eTup (aCons (eUn dNeg (eC (.int 1))) (aCons (eC (.int 2)) aNil))) (aCons (eTup (aCons (eC (.int 3)) (aCons (eC (.int 2)) aNil))) (aCons (eTup (aCons (eC (.int 2)) (aCons (eC (.int 4)) aNil))) (aCons (eTup (aCons (eC (.int 1)) (aCons (eC (.int 101)) aNil))) (aCons (eTup (aCons (eC (.int 1)) (aCons (eC (.int 0)) aNil))) (aCons (eTup (aCons (eC (.bl true)) (aCons (eC (.int 1)) aNil))) (aCons (eL (aCons (eC (.int 1)) (aCons (eC (.int 2)) aNil))) (aCons (eC (.int 1)) (aCons (eTup (aCons (eC (.int 1)) (aCons (eC (.int 2)) (aCons (eC (.int 3)) aNil)))) (aCons (eTup (aCons (eC (.int 0)) (aCons (eC (.int 2)) aNil))) aNil)))))))))))))))
def g__law_no_small (ds : List D) : Res D := outRes (b__law_no_small (startE 0 ds))
def isT (c j : Nat) : Bool := (([[true, false], [false, true]] : List (List Bool)).getD c []).getD j false
def okE (c : Nat) : Bool := Nat.blt c 2
@[reducible] def b__law_fails (cc : Nat) : Ev → Out := (sSeq (sOwn 2 aNil)
    (sSeq (sAppend 2 (eTup (aCons (eC (.str "number")) (aCons (eIsE 1 (isT cc 0)) aNil))))
    (sSeq (sAppend 2 (eTup (aCons (eC (.str "row")) (aCons (eIsE 1 (isT cc 1)) aNil))))
    (sSeq (sTg (tName 3) (eL (eComp [4, 5] (iSeqL (eZ 2)) (tTupD (tsCons (tName 4) (tsCons (tName 5) tsNil))) (bOf (eV 5)) (eV 4))))
    (sRet (eIf (bOf (eOp dNe (eV 3) (eL aNil))) (eJoin (eC (.str " ")) (eV 3)) (eC (.str "other"))))))))
def wdE (c : Nat) : Str := (rtS (b__law_fails c (startX 6 1))).getD ""
@[reducible, simp] def S1__law_news (ε : Ev) : Res (List D × Ev) := (iCall fEnum (aCons (eV 0) aNil)) ε
@[reducible, simp] def T1__law_news (d : D) (ε : Ev) : Res Ev := (tTupD (tsCons (tName 8) (tsCons (tName 9) tsNil))) d ε
@[reducible, simp] def B1__law_news (ε : Ev) : Out := (sIf (bAnd (bOf (eOp dGt (eOp dIx (eV 7) (eC (.int 0))) (eC (.int 0)))) (bOf (eOp dLe (eOp dAdd (eOp dAdd (eV 6) (eV 8)) (eC (.int 1))) (eV 1)))) (sSetIx 5 (eCB g__law_plus (aCons (eOpV dIx 5 (eOp dAdd (eOp dAdd (eV 6) (eV 8)) (eC (.int 1)))) (aCons (eCB g__law_times (aCons (eV 7) (aCons (eV 9) aNil))) aNil))) (eOp dAdd (eOp dAdd (eV 6) (eV 8)) (eC (.int 1)))) (fun ε => .nx ε)) ε
@[reducible, simp] def S2__law_news (ε : Ev) : Res (List D × Ev) := (iCall fEnum (aCons (eV 2) aNil)) ε
@[reducible, simp] def T2__law_news (d : D) (ε : Ev) : Res Ev := (tTupD (tsCons (tName 6) (tsCons (tName 7) tsNil))) d ε
@[reducible, simp] def B2__law_news (ε : Ev) : Out := (sFor S1__law_news T1__law_news B1__law_news) ε
@[reducible, simp] def CS1__law_news (ε : Ev) : Res (List D × Ev) := (iCall fZip (aCons (eV 3) (aCons (eZ 5) aNil))) ε
@[reducible, simp] def CT1__law_news (d : D) (ε : Ev) : Res Ev := (tTupD (tsCons (tName 10) (tsCons (tName 11) tsNil))) d ε
@[reducible, simp] def CP1__law_news (ε : Ev) : Res (Bool × Ev) := (fun ε => .ok (true, ε)) ε
@[reducible, simp] def CE1__law_news (ε : Ev) : Res (D × Ev) := (eCB g__law_plus (aCons (eV 10) (aCons (eV 11) aNil))) ε
@[reducible, simp] def S3__law_news (ε : Ev) : Res (List D × Ev) := (iCall fRange (aCons (eV 1) aNil)) ε
@[reducible, simp] def T3__law_news (d : D) (ε : Ev) : Res Ev := (tName 4) d ε
@[reducible, simp] def B3__law_news (ε : Ev) : Out := (sSeq (sOwn 5 (eOpN dRep (eL (aCons (eTup (aCons (eC (.int 0)) (aCons (eC (.int 1)) aNil))) aNil)) (eOp dAdd (eV 1) (eC (.int 1)))))
    (sSeq (sFor S2__law_news T2__law_news B2__law_news)
    (sPar2 2 3 (slP (eZ 5)) (slP (eL (eComp [10, 11] CS1__law_news CT1__law_news CP1__law_news CE1__law_news)))))) ε
@[reducible] def b__law_news : Ev → Out := (sSeq (sPar2 2 3 (slP (eOp dAdd (eL (aCons (eTup (aCons (eC (.int 1)) (aCons (eC (.int 1)) aNil))) aNil)) (eOp dMul (eL (aCons (eTup (aCons (eC (.int 0)) (aCons (eC (.int 1)) aNil))) aNil)) (eV 1)))) (slP (eOp dAdd (eL (aCons (eTup (aCons (eC (.int 1)) (aCons (eC (.int 1)) aNil))) aNil)) (eOp dMul (eL (aCons (eTup (aCons (eC (.int 0)) (aCons (eC (.int 1)) aNil))) aNil)) (eV 1)))))
    (sSeq (sFor S3__law_news T3__law_news B3__law_news)
    (sRet (eCB fTuple (aCons (eV 3) aNil)))))
def g__law_news (ds : List D) : Res D := outRes (b__law_news (startE 12 ds))
@[reducible, simp] def CS1__law_right (ε : Ev) : Res (List D × Ev) := (iCall fEnum (aCons (eV 0) aNil)) ε
@[reducible, simp] def CT1__law_right (d : D) (ε : Ev) : Res Ev := (tTupD (tsCons (tName 9) (tsCons (tName 10) tsNil))) d ε
@[reducible, simp] def CP1__law_right (ε : Ev) : Res (Bool × Ev) := (fun ε => .ok (true, ε)) ε
@[reducible, simp] def CE1__law_right (ε : Ev) : Res (D × Ev) := (eCB g__law_times (aCons (eV 10) (aCons (eTup (aCons (eOp dAdd (eV 9) (eC (.int 1))) (aCons (eC (.int 1)) aNil))) aNil))) ε
@[reducible, simp] def S1__law_right (ε : Ev) : Res (List D × Ev) := (iCall fRange (aCons (eV 3) aNil)) ε
@[reducible, simp] def T1__law_right (d : D) (ε : Ev) : Res Ev := (tName 7) d ε
@[reducible, simp] def B1__law_right (ε : Ev) : Out := (sSeq (sAppend 5 (eIf (bOf (eOp dLe (eV 7) (eV 1))) (eCB g__law_times (aCons (eOp dIx (eV 2) (eOp dSub (eV 1) (eV 7))) (aCons (eV 6) aNil))) (eTup (aCons (eC (.int 0)) (aCons (eC (.int 1)) aNil)))))
    (sTg (tName 6) (eCB g__law_less (aCons (eV 6) (aCons (eOp dIx (eV 0) (eV 7)) aNil))))) ε
@[reducible, simp] def S2__law_right (ε : Ev) : Res (List D × Ev) := (iCall fRange (aCons (eV 3) aNil)) ε
@[reducible, simp] def T2__law_right (d : D) (ε : Ev) : Res Ev := (tName 7) d ε
@[reducible, simp] def B2__law_right (ε : Ev) : Out := (sSeq (sIf (bOf (eOp dNe (eCB g__law_times (aCons (eOp dIx (eV 8) (eV 7)) (aCons (eV 4) aNil))) (eV 6))) (sRet (eC (.bl false))) (fun ε => .nx ε))
    (sTg (tName 6) (eCB g__law_less (aCons (eV 6) (aCons (eOp dIx (eV 0) (eV 7)) aNil))))) ε
@[reducible, simp] def CS2__law_right (ε : Ev) : Res (List D × Ev) := (iSeq (eV 8)) ε
@[reducible, simp] def CT2__law_right (d : D) (ε : Ev) : Res Ev := (tTupD (tsCons (tName 11) (tsCons (tName 12) tsNil))) d ε
@[reducible, simp] def CP2__law_right (ε : Ev) : Res (Bool × Ev) := (fun ε => .ok (true, ε)) ε
@[reducible, simp] def CE2__law_right (ε : Ev) : Res (D × Ev) := (eCB g__law_low (aCons (eV 11) (aCons (eV 12) aNil))) ε
@[reducible] def b__law_right : Ev → Out := (sSeq (sPar2 2 3 (slP (eCB g__law_news (aCons (eV 0) (aCons (eV 1) aNil)))) (slP (eCB fLen (aCons (eV 0) aNil))))
    (sSeq (sTg (tName 4) (eCB g__law_sum (aCons (eL (eComp [9, 10] CS1__law_right CT1__law_right CP1__law_right CE1__law_right)) aNil)))
    (sSeq (sIf (bNot (bOf (eCB (g__law_like 12) (aCons (eL (aCons (eCB g_new_chances (aCons (eV 0) (aCons (eV 1) aNil))) (aCons (eCB g_count_new (aCons (eV 0) (aCons (eV 1) aNil))) (aCons (eCB g_mean_life (aCons (eV 0) aNil)) aNil)))) (aCons (eL (aCons (eV 2) (aCons (eCB g__law_sum (aCons (eSl (eV 2) (oS (eC (.int 1))) oN) aNil)) (aCons (eV 4) aNil)))) aNil))))) (sRet (eC (.bl false))) (fun ε => .nx ε))
    (sSeq (sPar2 5 6 (slN aNil) (slP (eTup (aCons (eC (.int 1)) (aCons (eC (.int 1)) aNil)))))
    (sSeq (sFor S1__law_right T1__law_right B1__law_right)
    (sSeq (sIf (bOr (bNot (bOf (eCB (g__law_like 12) (aCons (eCB g_ages_at (aCons (eV 0) (aCons (eV 1) aNil))) (aCons (eCB fTuple (aCons (eZ 5) aNil)) aNil))))) (bOf (eOp dNe (eCB g__law_sum (aCons (eZ 5) aNil)) (eTup (aCons (eC (.int 1)) (aCons (eC (.int 1)) aNil)))))) (sRet (eC (.bl false))) (fun ε => .nx ε))
    (sSeq (sPar2 8 6 (slP (eCB g_long_ages (aCons (eV 0) aNil))) (slP (eTup (aCons (eC (.int 1)) (aCons (eC (.int 1)) aNil)))))
    (sSeq (sFor S2__law_right T2__law_right B2__law_right)
    (sSeq (sIf (bNot (bOf (eCB (g__law_like 12) (aCons (eV 8) (aCons (eCB fTuple (aCons (eL (eComp [11, 12] CS2__law_right CT2__law_right CP2__law_right CE2__law_right)) aNil)) aNil))))) (sRet (eC (.bl false))) (fun ε => .nx ε))
    (sRet (eAnd (eOp dEq (eCB fLen (aCons (eV 8) aNil)) (eV 3)) (eOp dEq (eCB g__law_sum (aCons (eV 8) aNil)) (eTup (aCons (eC (.int 1)) (aCons (eC (.int 1)) aNil)))))))))))))))
def g__law_right (ds : List D) : Res D := outRes (b__law_right (startE 13 ds))
@[reducible, simp] def CS1__law_lives (ε : Ev) : Res (List D × Ev) := (iCall fRange (aCons (eOp dSub (eV 1) (eC (.int 1))) aNil)) ε
@[reducible, simp] def CT1__law_lives (d : D) (ε : Ev) : Res Ev := (tName 3) d ε
@[reducible, simp] def CP1__law_lives (ε : Ev) : Res (Bool × Ev) := (fun ε => .ok (true, ε)) ε
@[reducible, simp] def CE1__law_lives (ε : Ev) : Res (D × Ev) := (eCallC 0 g__law_some (aCons (eL (aCons (eC (.int 0)) (aCons (eC (.int 1)) (aCons (eCallC 0 g__law_roll (aCons (eC (.int 9)) aNil)) aNil)))) aNil)) ε
@[reducible, simp] def CS2__law_lives (ε : Ev) : Res (List D × Ev) := (iSeq (eV 2)) ε
@[reducible, simp] def CT2__law_lives (d : D) (ε : Ev) : Res Ev := (tName 3) d ε
@[reducible, simp] def CP2__law_lives (ε : Ev) : Res (Bool × Ev) := (fun ε => .ok (true, ε)) ε
@[reducible, simp] def CE2__law_lives (ε : Ev) : Res (D × Ev) := (eCB g__law_low (aCons (eV 3) (aCons (eCB fSum (aCons (eV 2) aNil)) aNil))) ε
@[reducible] def b__law_lives : Ev → Out := (sSeq (sTg (tName 1) (eOp dAdd (eC (.int 1)) (eCallC 0 g__law_roll (aCons (eC (.int 5)) aNil))))
    (sSeq (sTg (tName 2) (eOp dAdd (eL (eComp [3] CS1__law_lives CT1__law_lives CP1__law_lives CE1__law_lives)) (eL (aCons (eOp dAdd (eC (.int 1)) (eCallC 0 g__law_roll (aCons (eC (.int 9)) aNil))) aNil))))
    (sRet (eCB fTuple (aCons (eL (eComp [3] CS2__law_lives CT2__law_lives CP2__law_lives CE2__law_lives)) aNil)))))
def g__law_lives (cs ds : List D) : Res (D × List D) := outC (b__law_lives (startC 4 cs ds))
def gs2 : Nat → Option (List D → Res D)
  | 0 => some g_new_chances
  | 1 => some g_count_new
  | 2 => some g_ages_at
  | _ => none
def gs1 : Nat → Option (List D → Res D)
  | 3 => some g_mean_life
  | 4 => some g_long_ages
  | _ => none
@[reducible, simp] def S1__law_errors (ε : Ev) : Res (List D × Ev) := (iSeq (eCall0 g__law_no_small)) ε
@[reducible, simp] def T1__law_errors (d : D) (ε : Ev) : Res Ev := (tName 1) d ε
@[reducible, simp] def B1__law_errors (ε : Ev) : Out := (sTg (tName 0) (eOp dAdd (eV 0) (eL (aCons (eTup (aCons (eV 1) (aCons (eTup (aCons (eC (.int 1)) (aCons (eC (.int 1)) aNil))) aNil))) (aCons (eTup (aCons (eTup (aCons (eC (.int 1)) (aCons (eC (.int 2)) aNil))) (aCons (eV 1) aNil))) aNil))))) ε
@[reducible, simp] def CS1__law_errors (ε : Ev) : Res (List D × Ev) := (iSeq (eTup (aCons (eC (.fn 0)) (aCons (eC (.fn 1)) (aCons (eC (.fn 2)) aNil))))) ε
@[reducible, simp] def CT1__law_errors (d : D) (ε : Ev) : Res Ev := (tName 3) d ε
@[reducible, simp] def CP1__law_errors (ε : Ev) : Res (Bool × Ev) := (fun ε => .ok (true, ε)) ε
@[reducible, simp] def CE1__law_errors (ε : Ev) : Res (D × Ev) := (eErrV "" okE wdE 3 gs2 (aCons (eV 1) (aCons (eC .non) aNil))) ε
@[reducible, simp] def CS2__law_errors (ε : Ev) : Res (List D × Ev) := (iSeq (eTup (aCons (eC (.fn 3)) (aCons (eC (.fn 4)) aNil)))) ε
@[reducible, simp] def CT2__law_errors (d : D) (ε : Ev) : Res Ev := (tName 3) d ε
@[reducible, simp] def CP2__law_errors (ε : Ev) : Res (Bool × Ev) := (fun ε => .ok (true, ε)) ε
@[reducible, simp] def CE2__law_errors (ε : Ev) : Res (D × Ev) := (eErrV "" okE wdE 3 gs1 (aCons (eV 1) aNil)) ε
@[reducible, simp] def S2__law_errors (ε : Ev) : Res (List D × Ev) := (iSeq (eV 0)) ε
@[reducible, simp] def T2__law_errors (d : D) (ε : Ev) : Res Ev := (tName 1) d ε
@[reducible, simp] def B2__law_errors (ε : Ev) : Out := (sSeq (sTg (tName 2) (eOp dAdd (eV 2) (eL (eComp [3] CS1__law_errors CT1__law_errors CP1__law_errors CE1__law_errors))))
    (sTg (tName 2) (eOp dAdd (eV 2) (eL (eComp [3] CS2__law_errors CT2__law_errors CP2__law_errors CE2__law_errors))))) ε
@[reducible, simp] def CS3__law_errors (ε : Ev) : Res (List D × Ev) := (iSeq (eTup (aCons (eC (.fn 0)) (aCons (eC (.fn 1)) (aCons (eC (.fn 2)) aNil))))) ε
@[reducible, simp] def CT3__law_errors (d : D) (ε : Ev) : Res Ev := (tName 3) d ε
@[reducible, simp] def CP3__law_errors (ε : Ev) : Res (Bool × Ev) := (fun ε => .ok (true, ε)) ε
@[reducible, simp] def CE3__law_errors (ε : Ev) : Res (D × Ev) := (eErrV "" okE wdE 3 gs2 (aCons (eTup (aCons (eTup (aCons (eC (.int 1)) (aCons (eC (.int 1)) aNil))) aNil)) (aCons (eV 1) aNil))) ε
@[reducible, simp] def S3__law_errors (ε : Ev) : Res (List D × Ev) := (iSeq (eTup (aCons (eC .non) (aCons (eUn dNeg (eC (.int 1))) (aCons (eC (.int 31)) (aCons (eC (.bl true)) (aCons (eC (.str "1")) aNil))))))) ε
@[reducible, simp] def T3__law_errors (d : D) (ε : Ev) : Res Ev := (tName 1) d ε
@[reducible, simp] def B3__law_errors (ε : Ev) : Out := (sTg (tName 2) (eOp dAdd (eV 2) (eL (eComp [3] CS3__law_errors CT3__law_errors CP3__law_errors CE3__law_errors)))) ε
@[reducible] def b__law_errors : Ev → Out := (sSeq (sTg (tName 0) (eL (aCons (eC .non) (aCons (eTup aNil) (aCons (eL (aCons (eTup (aCons (eC (.int 1)) (aCons (eC (.int 1)) aNil))) aNil)) (aCons (eTup (aCons (eTup (aCons (eC (.int 1)) (aCons (eC (.int 2)) aNil))) aNil)) (aCons (eTup (aCons (eTup (aCons (eC (.int 1)) (aCons (eC (.int 2)) aNil))) (aCons (eTup (aCons (eC (.int 1)) (aCons (eC (.int 3)) aNil))) aNil))) (aCons (eTup (aCons (eTup (aCons (eC (.int 1)) (aCons (eC (.int 1)) aNil))) (aCons (eTup (aCons (eC (.int 0)) (aCons (eC (.int 1)) aNil))) aNil))) (aCons (eTup (aCons (eTup (aCons (eC (.int 2)) (aCons (eC (.int 3)) aNil))) (aCons (eTup (aCons (eC (.int 2)) (aCons (eC (.int 3)) aNil))) aNil))) (aCons (eOp dAdd (eOp dMul (eTup (aCons (eTup (aCons (eC (.int 0)) (aCons (eC (.int 1)) aNil))) aNil)) (eC (.int 12))) (eTup (aCons (eTup (aCons (eC (.int 1)) (aCons (eC (.int 1)) aNil))) aNil))) (aCons (eC (.int 0)) aNil)))))))))))
    (sSeq (sFor S1__law_errors T1__law_errors B1__law_errors)
    (sSeq (sTg (tName 2) (eL aNil))
    (sSeq (sFor S2__law_errors T2__law_errors B2__law_errors)
    (sSeq (sIf (bOf (eOp dNe (eV 2) (eOp dMul (eL (aCons (eC (.str "row")) aNil)) (eOp dMul (eC (.int 5)) (eCB fLen (aCons (eV 0) aNil)))))) (sRet (eC (.bl false))) (fun ε => .nx ε))
    (sSeq (sTg (tName 2) (eL aNil))
    (sSeq (sFor S3__law_errors T3__law_errors B3__law_errors)
    (sRet (eOp dEq (eV 2) (eOp dMul (eL (aCons (eC (.str "number")) aNil)) (eC (.int 15))))))))))))
def g__law_errors (ds : List D) : Res D := outRes (b__law_errors (startE 4 ds))
@[reducible, simp] def S1_law (ε : Ev) : Res (List D × Ev) := (iCall fRange (aCons (eC (.int 7)) aNil)) ε
@[reducible, simp] def T1_law (d : D) (ε : Ev) : Res Ev := (tName 2) d ε
@[reducible, simp] def B1_law (ε : Ev) : Out := (sIf (bNot (bOf (eCB g__law_right (aCons (eCallC 1 g__law_lives aNil) (aCons (eCallC 1 g__law_roll (aCons (eC (.int 9)) aNil)) aNil))))) (sRet (eC (.bl false))) (fun ε => .nx ε)) ε
@[reducible, simp] def S2_law (ε : Ev) : Res (List D × Ev) := (iSeq (eOp dAdd (eV 8) (eL (aCons (eTup (aCons (eTup (aCons (eTup (aCons (eC (.int 99)) (aCons (eC (.int 100)) aNil))) (aCons (eTup (aCons (eC (.int 1)) (aCons (eC (.int 100)) aNil))) aNil))) (aCons (eC (.int 6)) aNil))) aNil)))) ε
@[reducible, simp] def T2_law (d : D) (ε : Ev) : Res Ev := (tTupD (tsCons (tName 9) (tsCons (tName 10) tsNil))) d ε
@[reducible, simp] def B2_law (ε : Ev) : Out := (sIf (bNot (bOf (eCB g__law_right (aCons (eV 9) (aCons (eV 10) aNil))))) (sRet (eC (.bl false))) (fun ε => .nx ε)) ε
@[reducible] def b_law : Ev → Out := (sSeq (sOwn 1 (eCallN g__law_cup (aCons (eV 0) aNil)))
    (sSeq (sFor S1_law T1_law B1_law)
    (sSeq (sTg (tTupD (tsCons (tName 3) (tsCons (tName 4) (tsCons (tName 5) tsNil)))) (eTup (aCons (eTup (aCons (eTup (aCons (eC (.int 1)) (aCons (eC (.int 2)) aNil))) (aCons (eTup (aCons (eC (.int 1)) (aCons (eC (.int 2)) aNil))) aNil))) (aCons (eTup (aCons (eTup (aCons (eC (.int 0)) (aCons (eC (.int 1)) aNil))) (aCons (eTup (aCons (eC (.int 1)) (aCons (eC (.int 1)) aNil))) aNil))) (aCons (eTup (aCons (eTup (aCons (eC (.int 1)) (aCons (eC (.int 4)) aNil))) (aCons (eTup (aCons (eC (.int 0)) (aCons (eC (.int 1)) aNil))) (aCons (eTup (aCons (eC (.int 3)) (aCons (eC (.int 4)) aNil))) aNil)))) aNil)))))
    (sSeq (sTg (tName 6) (eL (aCons (eCB g_new_chances (aCons (eV 3) (aCons (eC (.int 3)) aNil))) (aCons (eCB g_count_new (aCons (eV 3) (aCons (eC (.int 2)) aNil))) (aCons (eCB g_mean_life (aCons (eV 3) aNil)) (aCons (eCB g_ages_at (aCons (eV 3) (aCons (eC (.int 2)) aNil))) (aCons (eCB g_long_ages (aCons (eV 3) aNil)) (aCons (eCB g_new_chances (aCons (eV 4) (aCons (eC (.int 4)) aNil))) aNil))))))))
    (sSeq (sTg (tName 6) (eOp dAdd (eV 6) (eL (aCons (eCB g_ages_at (aCons (eV 4) (aCons (eC (.int 3)) aNil))) (aCons (eCB g_mean_life (aCons (eV 5) aNil)) (aCons (eCB g_long_ages (aCons (eV 5) aNil)) (aCons (eCB g_ages_at (aCons (eV 5) (aCons (eC (.int 0)) aNil))) aNil)))))))
    (sSeq (sTg (tName 7) (eL (aCons (eTup (aCons (eTup (aCons (eC (.int 1)) (aCons (eC (.int 1)) aNil))) (aCons (eTup (aCons (eC (.int 1)) (aCons (eC (.int 2)) aNil))) (aCons (eTup (aCons (eC (.int 3)) (aCons (eC (.int 4)) aNil))) (aCons (eTup (aCons (eC (.int 5)) (aCons (eC (.int 8)) aNil))) aNil))))) (aCons (eTup (aCons (eC (.int 5)) (aCons (eC (.int 4)) aNil))) (aCons (eTup (aCons (eC (.int 3)) (aCons (eC (.int 2)) aNil))) aNil)))))
    (sSeq (sTg (tName 7) (eOp dAdd (eV 7) (eL (aCons (eTup (aCons (eTup (aCons (eC (.int 3)) (aCons (eC (.int 4)) aNil))) (aCons (eTup (aCons (eC (.int 1)) (aCons (eC (.int 4)) aNil))) aNil))) (aCons (eTup (aCons (eTup (aCons (eC (.int 2)) (aCons (eC (.int 3)) aNil))) (aCons (eTup (aCons (eC (.int 1)) (aCons (eC (.int 3)) aNil))) aNil))) (aCons (eTup (aCons (eTup (aCons (eC (.int 1)) (aCons (eC (.int 1)) aNil))) (aCons (eTup (aCons (eC (.int 0)) (aCons (eC (.int 1)) aNil))) (aCons (eTup (aCons (eC (.int 1)) (aCons (eC (.int 1)) aNil))) (aCons (eTup (aCons (eC (.int 0)) (aCons (eC (.int 1)) aNil))) (aCons (eTup (aCons (eC (.int 1)) (aCons (eC (.int 1)) aNil))) aNil)))))) aNil))))))
    (sSeq (sIf (bNot (bOf (eCB (g__law_like 12) (aCons (eV 6) (aCons (eOp dAdd (eV 7) (eL (aCons (eTup (aCons (eTup (aCons (eC (.int 0)) (aCons (eC (.int 1)) aNil))) (aCons (eTup (aCons (eC (.int 1)) (aCons (eC (.int 1)) aNil))) aNil))) (aCons (eTup (aCons (eC (.int 5)) (aCons (eC (.int 2)) aNil))) (aCons (eTup (aCons (eTup (aCons (eC (.int 2)) (aCons (eC (.int 5)) aNil))) (aCons (eTup (aCons (eC (.int 3)) (aCons (eC (.int 10)) aNil))) (aCons (eTup (aCons (eC (.int 3)) (aCons (eC (.int 10)) aNil))) aNil)))) (aCons (eTup (aCons (eTup (aCons (eC (.int 1)) (aCons (eC (.int 1)) aNil))) (aCons (eTup (aCons (eC (.int 0)) (aCons (eC (.int 1)) aNil))) (aCons (eTup (aCons (eC (.int 0)) (aCons (eC (.int 1)) aNil))) aNil)))) aNil)))))) aNil))))) (sRet (eC (.bl false))) (fun ε => .nx ε))
    (sSeq (sTg (tName 6) (eL (aCons (eCB g_new_chances (aCons (eV 5) (aCons (eC (.int 3)) aNil))) (aCons (eCB g_ages_at (aCons (eV 5) (aCons (eC (.int 3)) aNil))) (aCons (eCB g_count_new (aCons (eV 5) (aCons (eC (.int 4)) aNil))) aNil)))))
    (sSeq (sIf (bNot (bOf (eCB (g__law_like 12) (aCons (eV 6) (aCons (eL (aCons (eTup (aCons (eTup (aCons (eC (.int 1)) (aCons (eC (.int 1)) aNil))) (aCons (eTup (aCons (eC (.int 1)) (aCons (eC (.int 4)) aNil))) (aCons (eTup (aCons (eC (.int 1)) (aCons (eC (.int 16)) aNil))) (aCons (eTup (aCons (eC (.int 49)) (aCons (eC (.int 64)) aNil))) aNil))))) (aCons (eTup (aCons (eTup (aCons (eC (.int 49)) (aCons (eC (.int 64)) aNil))) (aCons (eTup (aCons (eC (.int 3)) (aCons (eC (.int 64)) aNil))) (aCons (eTup (aCons (eC (.int 3)) (aCons (eC (.int 16)) aNil))) aNil)))) (aCons (eTup (aCons (eC (.int 373)) (aCons (eC (.int 256)) aNil))) aNil)))) aNil))))) (sRet (eC (.bl false))) (fun ε => .nx ε))
    (sSeq (sTg (tName 8) (eL (aCons (eTup (aCons (eV 5) (aCons (eC (.int 12)) aNil))) (aCons (eTup (aCons (eV 3) (aCons (eC (.int 30)) aNil))) (aCons (eTup (aCons (eV 4) (aCons (eC (.int 7)) aNil))) (aCons (eTup (aCons (eTup (aCons (eTup (aCons (eC (.int 1)) (aCons (eC (.int 1)) aNil))) aNil)) (aCons (eC (.int 5)) aNil))) (aCons (eTup (aCons (eOp dAdd (eOp dMul (eTup (aCons (eTup (aCons (eC (.int 0)) (aCons (eC (.int 1)) aNil))) aNil)) (eC (.int 11))) (eTup (aCons (eTup (aCons (eC (.int 1)) (aCons (eC (.int 1)) aNil))) aNil))) (aCons (eC (.int 30)) aNil))) (aCons (eTup (aCons (eTup (aCons (eTup (aCons (eC (.int 0)) (aCons (eC (.int 1)) aNil))) (aCons (eTup (aCons (eC (.int 1)) (aCons (eC (.int 3)) aNil))) (aCons (eTup (aCons (eC (.int 2)) (aCons (eC (.int 3)) aNil))) aNil)))) (aCons (eC (.int 9)) aNil))) aNil))))))))
    (sSeq (sTg (tName 8) (eOp dAdd (eV 8) (eL (aCons (eTup (aCons (eTup (aCons (eTup (aCons (eC (.int 1)) (aCons (eC (.int 3)) aNil))) (aCons (eTup (aCons (eC (.int 0)) (aCons (eC (.int 1)) aNil))) (aCons (eTup (aCons (eC (.int 2)) (aCons (eC (.int 3)) aNil))) aNil)))) (aCons (eC (.int 9)) aNil))) (aCons (eTup (aCons (eTup (aCons (eTup (aCons (eC (.int 1)) (aCons (eC (.int 6)) aNil))) (aCons (eTup (aCons (eC (.int 1)) (aCons (eC (.int 3)) aNil))) (aCons (eTup (aCons (eC (.int 1)) (aCons (eC (.int 2)) aNil))) aNil)))) (aCons (eC (.int 8)) aNil))) (aCons (eTup (aCons (eOp dMul (eTup (aCons (eTup (aCons (eC (.int 1)) (aCons (eC (.int 12)) aNil))) aNil)) (eC (.int 12))) (aCons (eC (.int 14)) aNil))) aNil))))))
    (sSeq (sFor S2_law T2_law B2_law)
    (sRet (eCall0 g__law_errors)))))))))))))))
def g_law (ds : List D) : Res D := outRes (b_law (startE 11 ds))
end W64

namespace W64
open PySem PySem.Spec PyProof.Rows L2 PL
def topS (i : Nat) : Stmt := PySem.Challenge.pw_roadsfail_k64_whole_new_parts.main.body.getD i (.Pass ⟨0, 0, 0, 0⟩)
abbrev s_is_whole : Stmt := topS 6
theorem sc_is_whole : FnScope ["value", "low", "high"] ["value", "low", "high"] (defScope s_is_whole) := ⟨rfl, rfl, rfl, by decide +kernel, rfl, by decide +kernel, by decide +kernel⟩
abbrev s_need_whole : Stmt := topS 7
theorem sc_need_whole : FnScope ["value", "low", "high"] ["value", "low", "high"] (defScope s_need_whole) := ⟨rfl, rfl, rfl, by decide +kernel, rfl, by decide +kernel, by decide +kernel⟩
abbrev s_is_tuple_of : Stmt := topS 8
theorem sc_is_tuple_of : FnScope ["value", "low", "high"] ["value", "low", "high"] (defScope s_is_tuple_of) := ⟨rfl, rfl, rfl, by decide +kernel, rfl, by decide +kernel, by decide +kernel⟩
abbrev s_is_portion : Stmt := topS 11
theorem sc_is_portion : FnScope ["value"] ["value"] (defScope s_is_portion) := ⟨rfl, rfl, rfl, by decide +kernel, rfl, by decide +kernel, by decide +kernel⟩
abbrev s_lowest : Stmt := topS 12
theorem sc_lowest : FnScope ["top", "bottom", "shared"] ["top", "bottom"] (defScope s_lowest) := ⟨rfl, rfl, rfl, by decide +kernel, rfl, by decide +kernel, by decide +kernel⟩
abbrev s_plus : Stmt := topS 13
theorem sc_plus : FnScope ["one", "other"] ["one", "other"] (defScope s_plus) := ⟨rfl, rfl, rfl, by decide +kernel, rfl, by decide +kernel, by decide +kernel⟩
abbrev s_times : Stmt := topS 14
theorem sc_times : FnScope ["one", "other"] ["one", "other"] (defScope s_times) := ⟨rfl, rfl, rfl, by decide +kernel, rfl, by decide +kernel, by decide +kernel⟩
abbrev s_is_small : Stmt := topS 18
theorem sc_is_small : FnScope ["value"] ["value"] (defScope s_is_small) := ⟨rfl, rfl, rfl, by decide +kernel, rfl, by decide +kernel, by decide +kernel⟩
abbrev s_quotient : Stmt := topS 19
theorem sc_quotient : FnScope ["one", "other"] ["one", "other"] (defScope s_quotient) := ⟨rfl, rfl, rfl, by decide +kernel, rfl, by decide +kernel, by decide +kernel⟩
abbrev s_total : Stmt := topS 22
theorem sc_total : FnScope ["parts", "found", "part"] ["parts"] (defScope s_total) := ⟨rfl, rfl, rfl, by decide +kernel, rfl, by decide +kernel, by decide +kernel⟩
abbrev s_need_lives : Stmt := topS 23
theorem sc_need_lives : FnScope ["lives", "part"] ["lives"] (defScope s_need_lives) := ⟨rfl, rfl, rfl, by decide +kernel, rfl, by decide +kernel, by decide +kernel⟩
abbrev s_news_in : Stmt := topS 24
theorem sc_news_in : FnScope ["lives", "steps", "found", "step", "k", "part"] ["lives", "steps"] (defScope s_news_in) := ⟨rfl, rfl, rfl, by decide +kernel, rfl, by decide +kernel, by decide +kernel⟩
abbrev s_longer_in : Stmt := topS 25
theorem sc_longer_in : FnScope ["lives", "age"] ["lives"] (defScope s_longer_in) := ⟨rfl, rfl, rfl, by decide +kernel, rfl, by decide +kernel, by decide +kernel⟩
abbrev s_mean_in : Stmt := topS 26
theorem sc_mean_in : FnScope ["lives", "k", "part"] ["lives"] (defScope s_mean_in) := ⟨rfl, rfl, rfl, by decide +kernel, rfl, by decide +kernel, by decide +kernel⟩
abbrev s_need_both : Stmt := topS 27
theorem sc_need_both : FnScope ["lives", "steps"] ["lives", "steps"] (defScope s_need_both) := ⟨rfl, rfl, rfl, by decide +kernel, rfl, by decide +kernel, by decide +kernel⟩
abbrev s_new_chances : Stmt := topS 28
theorem sc_new_chances : FnScope ["lives", "steps"] ["lives", "steps"] (defScope s_new_chances) := ⟨rfl, rfl, rfl, by decide +kernel, rfl, by decide +kernel, by decide +kernel⟩
abbrev s_count_new : Stmt := topS 29
theorem sc_count_new : FnScope ["lives", "steps"] ["lives", "steps"] (defScope s_count_new) := ⟨rfl, rfl, rfl, by decide +kernel, rfl, by decide +kernel, by decide +kernel⟩
abbrev s_mean_life : Stmt := topS 30
theorem sc_mean_life : FnScope ["lives"] ["lives"] (defScope s_mean_life) := ⟨rfl, rfl, rfl, by decide +kernel, rfl, by decide +kernel, by decide +kernel⟩
abbrev s_ages_at : Stmt := topS 31
theorem sc_ages_at : FnScope ["lives", "steps", "news", "longer", "age", "own"] ["lives", "steps"] (defScope s_ages_at) := ⟨rfl, rfl, rfl, by decide +kernel, rfl, by decide +kernel, by decide +kernel⟩
abbrev s_long_ages : Stmt := topS 32
theorem sc_long_ages : FnScope ["lives", "mean", "own"] ["lives"] (defScope s_long_ages) := ⟨rfl, rfl, rfl, by decide +kernel, rfl, by decide +kernel, by decide +kernel⟩
abbrev s__law_cup : Stmt := topS 34
theorem sc__law_cup : FnScope ["script", "cell"] ["script"] (defScope s__law_cup) := ⟨rfl, rfl, rfl, by decide +kernel, rfl, by decide +kernel, by decide +kernel⟩
abbrev s__law_roll : Stmt := topS 35
theorem sc__law_roll : FnScope ["cup", "many", "found"] ["cup", "many"] (defScope s__law_roll) := ⟨rfl, rfl, rfl, by decide +kernel, rfl, by decide +kernel, by decide +kernel⟩
abbrev s__law_some : Stmt := topS 36
theorem sc__law_some : FnScope ["cup", "things"] ["cup", "things"] (defScope s__law_some) := ⟨rfl, rfl, rfl, by decide +kernel, rfl, by decide +kernel, by decide +kernel⟩
abbrev s__law_sort : Stmt := topS 37
theorem sc__law_sort : FnScope ["value"] ["value"] (defScope s__law_sort) := ⟨rfl, rfl, rfl, by decide +kernel, rfl, by decide +kernel, by decide +kernel⟩
abbrev s__law_like : Stmt := topS 38
theorem sc__law_like : FnScope ["one", "other", "sort", "first", "second"] ["one", "other"] (defScope s__law_like) := ⟨rfl, rfl, rfl, by decide +kernel, rfl, by decide +kernel, by decide +kernel⟩
abbrev s__law_low : Stmt := topS 39
theorem sc__law_low : FnScope ["top", "bottom", "one", "other", "turn"] ["top", "bottom"] (defScope s__law_low) := ⟨rfl, rfl, rfl, by decide +kernel, rfl, by decide +kernel, by decide +kernel⟩
abbrev s__law_plus : Stmt := topS 40
theorem sc__law_plus : FnScope ["one", "other"] ["one", "other"] (defScope s__law_plus) := ⟨rfl, rfl, rfl, by decide +kernel, rfl, by decide +kernel, by decide +kernel⟩
abbrev s__law_times : Stmt := topS 41
theorem sc__law_times : FnScope ["one", "other"] ["one", "other"] (defScope s__law_times) := ⟨rfl, rfl, rfl, by decide +kernel, rfl, by decide +kernel, by decide +kernel⟩
abbrev s__law_less : Stmt := topS 42
theorem sc__law_less : FnScope ["one", "other"] ["one", "other"] (defScope s__law_less) := ⟨rfl, rfl, rfl, by decide +kernel, rfl, by decide +kernel, by decide +kernel⟩
abbrev s__law_sum : Stmt := topS 43
theorem sc__law_sum : FnScope ["parts", "found", "part"] ["parts"] (defScope s__law_sum) := ⟨rfl, rfl, rfl, by decide +kernel, rfl, by decide +kernel, by decide +kernel⟩
abbrev s__law_no_small : Stmt := topS 44
theorem sc__law_no_small : FnScope [] [] (defScope s__law_no_small) := ⟨rfl, rfl, rfl, by decide +kernel, rfl, by decide +kernel, by decide +kernel⟩
abbrev s__law_fails : Stmt := topS 45
theorem sc__law_fails : FnScope ["call", "e", "some", "words", "word", "good"] ["call"] (defScope s__law_fails) := ⟨rfl, rfl, rfl, by decide +kernel, rfl, by decide +kernel, by decide +kernel⟩
abbrev s__law_news : Stmt := topS 46
theorem sc__law_news : FnScope ["lives", "steps", "sums", "found", "turn", "later", "at", "chance", "k", "part", "one", "other"] ["lives", "steps"] (defScope s__law_news) := ⟨rfl, rfl, rfl, by decide +kernel, rfl, by decide +kernel, by decide +kernel⟩
abbrev s__law_right : Stmt := topS 47
theorem sc__law_right : FnScope ["lives", "steps", "due", "many", "mean", "ages", "stay", "age", "longs", "k", "part", "top", "bottom"] ["lives", "steps"] (defScope s__law_right) := ⟨rfl, rfl, rfl, by decide +kernel, rfl, by decide +kernel, by decide +kernel⟩
abbrev s__law_lives : Stmt := topS 48
theorem sc__law_lives : FnScope ["cup", "many", "parts", "part"] ["cup"] (defScope s__law_lives) := ⟨rfl, rfl, rfl, by decide +kernel, rfl, by decide +kernel, by decide +kernel⟩
abbrev s__law_errors : Stmt := topS 49
theorem sc__law_errors : FnScope ["odds", "odd", "words", "call"] [] (defScope s__law_errors) := ⟨rfl, rfl, rfl, by decide +kernel, rfl, by decide +kernel, by decide +kernel⟩
abbrev s_law : Stmt := topS 50
theorem sc_law : FnScope ["script", "cup", "turn", "half", "second", "gap", "told", "due", "rows", "lives", "steps"] ["script"] (defScope s_law) := ⟨rfl, rfl, rfl, by decide +kernel, rfl, by decide +kernel, by decide +kernel⟩
structure Top (F : Fx) (K : PySem.W.Frag) (mg : Str → Option Value) (base : Heap) : Prop where
  hF : F.K = K
  f_is_whole : FnC K mg "is_whole" "is_whole" s_is_whole
  f_need_whole : FnC K mg "need_whole" "need_whole" s_need_whole
  f_is_tuple_of : FnC K mg "is_tuple_of" "is_tuple_of" s_is_tuple_of
  f_is_portion : FnC K mg "is_portion" "is_portion" s_is_portion
  f_lowest : FnC K mg "lowest" "lowest" s_lowest
  f_plus : FnC K mg "plus" "plus" s_plus
  f_times : FnC K mg "times" "times" s_times
  f_is_small : FnC K mg "is_small" "is_small" s_is_small
  f_quotient : FnC K mg "quotient" "quotient" s_quotient
  f_total : FnC K mg "total" "total" s_total
  f_need_lives : FnC K mg "need_lives" "need_lives" s_need_lives
  f_news_in : FnC K mg "news_in" "news_in" s_news_in
  f_longer_in : FnC K mg "longer_in" "longer_in" s_longer_in
  f_mean_in : FnC K mg "mean_in" "mean_in" s_mean_in
  f_need_both : FnC K mg "need_both" "need_both" s_need_both
  f_new_chances : FnC K mg "new_chances" "new_chances" s_new_chances
  f_count_new : FnC K mg "count_new" "count_new" s_count_new
  f_mean_life : FnC K mg "mean_life" "mean_life" s_mean_life
  f_ages_at : FnC K mg "ages_at" "ages_at" s_ages_at
  f_long_ages : FnC K mg "long_ages" "long_ages" s_long_ages
  f__law_cup : FnC K mg "_law_cup" "_law_cup" s__law_cup
  f__law_roll : FnC K mg "_law_roll" "_law_roll" s__law_roll
  f__law_some : FnC K mg "_law_some" "_law_some" s__law_some
  f__law_sort : FnC K mg "_law_sort" "_law_sort" s__law_sort
  f__law_like : FnC K mg "_law_like" "_law_like" s__law_like
  f__law_low : FnC K mg "_law_low" "_law_low" s__law_low
  f__law_plus : FnC K mg "_law_plus" "_law_plus" s__law_plus
  f__law_times : FnC K mg "_law_times" "_law_times" s__law_times
  f__law_less : FnC K mg "_law_less" "_law_less" s__law_less
  f__law_sum : FnC K mg "_law_sum" "_law_sum" s__law_sum
  f__law_no_small : FnC K mg "_law_no_small" "_law_no_small" s__law_no_small
  f__law_fails : FnC K mg "_law_fails" "_law_fails" s__law_fails
  f__law_news : FnC K mg "_law_news" "_law_news" s__law_news
  f__law_right : FnC K mg "_law_right" "_law_right" s__law_right
  f__law_lives : FnC K mg "_law_lives" "_law_lives" s__law_lives
  f__law_errors : FnCT F K mg base "_law_errors" "_law_errors" s__law_errors
  z_isinstance : mg "isinstance" = none
  z_int : mg "int" = none
  z_bool : mg "bool" = none
  z_tuple : mg "tuple" = none
  z_len : mg "len" = none
  z_all : mg "all" = none
  z_range : mg "range" = none
  z_enumerate : mg "enumerate" = none
  z_abs : mg "abs" = none
  z_list : mg "list" = none
  z_str : mg "str" = none
  z_zip : mg "zip" = none
  z_sum : mg "sum" = none
  m_gcd : mg "gcd" = some (.builtin "math.gcd")
  c_GREAT : GlC F mg "GREAT" (.int 1000000000000000000000000000000000000000000000000000000000000)
  c_SMALL : GlC F mg "SMALL" (.int 100)
  c_LONG : GlC F mg "LONG" (.int 12)
  c_STEPS : GlC F mg "STEPS" (.int 30)
  e_InvalidNumber : ErrC K mg "InvalidNumber" (F.ca 0)
  e_InvalidRow : ErrC K mg "InvalidRow" (F.ca 1)
  v_new_chances : mg "new_chances" = some (.ref (F.fa 0))
  v_count_new : mg "count_new" = some (.ref (F.fa 1))
  v_ages_at : mg "ages_at" = some (.ref (F.fa 2))
  v_mean_life : mg "mean_life" = some (.ref (F.fa 3))
  v_long_ages : mg "long_ages" = some (.ref (F.fa 4))
  root : mg "RoadError" = some (.ref (F.ca 2))
  xs : ∀ c, okE c = true → ExcC K (F.ca c)
  kt : ∀ c j, okE c = true → j < 2 → PySem.W.kitOne K (.ref (F.ca c)) (.ref (F.ca j)) = some (isT c j)
  ks : ∀ c, okE c = true → PySem.W.exmOne K (.ref (F.ca c)) (.ref (F.ca 2)) = some true
theorem dk_is_whole {F : Fx} {K : PySem.W.Frag} {mg : Str → Option Value} {P : Program} {w : World} {base : Heap} (T : Top F K mg base) : DOk F P w K mg base "is_whole" 1 3 (SpP F 3 g_is_whole) := by
  obtain ⟨f, fd, Fu, gm⟩ := T.f_is_whole
  refine ⟨⟨f, fd, _, fn_pure T.hF (body := b_is_whole) Fu sc_is_whole rfl (by decide) (fun cdv A outer s H E c => ?_) (fun ds _ => rfl), gm, Fu.kp, Fu.binds fun _ _ _ _ _ _ us hl => match us, hl with | [_, _, _], _ => rfl⟩⟩
  exact (pss_one' (ps_ret' (pv_and (pv_isi c (T := "int") T.z_isinstance T.z_int (by decide +kernel) (pv_var 0)) (pv_and (pv_not (pv_isi c (T := "bool") T.z_isinstance T.z_bool (by decide +kernel) (pv_var 0))) (pv_one (pv_ch2 cm_le cm_le (pv_var 1) (pv_var 0) (pv_var 2)))))))
theorem dk_need_whole {F : Fx} {K : PySem.W.Frag} {mg : Str → Option Value} {P : Program} {w : World} {base : Heap} (T : Top F K mg base) : DOk F P w K mg base "need_whole" 2 3 (SpP F 3 g_need_whole) := by
  obtain ⟨f, fd, Fu, gm⟩ := T.f_need_whole
  refine ⟨⟨f, fd, _, fn_pure T.hF (body := b_need_whole) Fu sc_need_whole rfl (by decide) (fun cdv A outer s H E c => ?_) (fun ds _ => rfl), gm, Fu.kp, Fu.binds fun _ _ _ _ _ _ us hl => match us, hl with | [_, _, _], _ => rfl⟩⟩
  exact (pss_one' (ps_if' (pb_not (pb_val (pv_call c (dk_is_whole T) (by decide) (pa_cons' (pv_var 0) (pa_cons' (pv_var 1) (pa_cons' (pv_var 2) pa_nil')))))) (pss_one' (ps_raise' c (ci := 0) T.e_InvalidNumber)) pss_nil'))
theorem dk_is_tuple_of {F : Fx} {K : PySem.W.Frag} {mg : Str → Option Value} {P : Program} {w : World} {base : Heap} (T : Top F K mg base) : DOk F P w K mg base "is_tuple_of" 1 3 (SpP F 3 g_is_tuple_of) := by
  obtain ⟨f, fd, Fu, gm⟩ := T.f_is_tuple_of
  refine ⟨⟨f, fd, _, fn_pure T.hF (body := b_is_tuple_of) Fu sc_is_tuple_of rfl (by decide) (fun cdv A outer s H E c => ?_) (fun ds _ => rfl), gm, Fu.kp, Fu.binds fun _ _ _ _ _ _ us hl => match us, hl with | [_, _, _], _ => rfl⟩⟩
  exact (pss_one' (ps_ret' (pv_and (pv_isi c (T := "tuple") T.z_isinstance T.z_tuple (by decide +kernel) (pv_var 0)) (pv_one (pv_ch2 cm_le cm_le (pv_var 1) (pv_len c T.z_len (pa_cons' (pv_var 0) pa_nil')) (pv_var 2))))))
theorem dk_is_portion {F : Fx} {K : PySem.W.Frag} {mg : Str → Option Value} {P : Program} {w : World} {base : Heap} (T : Top F K mg base) : DOk F P w K mg base "is_portion" 2 1 (SpP F 1 g_is_portion) := by
  obtain ⟨f, fd, Fu, gm⟩ := T.f_is_portion
  refine ⟨⟨f, fd, _, fn_pure T.hF (body := b_is_portion) Fu sc_is_portion rfl (by decide) (fun cdv A outer s H E c => ?_) (fun ds _ => rfl), gm, Fu.kp, Fu.binds fun _ _ _ _ _ _ us hl => match us, hl with | [_], _ => rfl⟩⟩
  exact (pss_cons' (ps_if' (PBW.pb (pb_or (pb_not (pb_val (pv_call c (dk_is_tuple_of T) (by decide) (pa_cons' (pv_var 0) (pa_cons' pv_int (pa_cons' pv_int pa_nil')))))) (pb_or (pb_not (pb_val (pv_call c (dk_is_whole T) (by decide) (pa_cons' (pv_ix c (pv_var 0) pv_int) (pa_cons' (pv_neg (pv_gl T.c_GREAT)) (pa_cons' (pv_gl T.c_GREAT) pa_nil')))))) (pb_or1 (pb_not (pb_val (pv_call c (dk_is_whole T) (by decide) (pa_cons' (pv_ix c (pv_var 0) pv_int) (pa_cons' pv_int (pa_cons' (pv_gl T.c_GREAT) pa_nil')))))))))) (pss_one' (ps_ret' pv_bl)) pss_nil')
    (pss_one' (ps_ret' (pv_cmp (cm_eq c) (pv_gcd T.m_gcd (pa_cons' (pv_ix c (pv_var 0) pv_int) (pa_cons' (pv_ix c (pv_var 0) pv_int) pa_nil'))) pv_int))))
theorem dk_lowest {F : Fx} {K : PySem.W.Frag} {mg : Str → Option Value} {P : Program} {w : World} {base : Heap} (T : Top F K mg base) : DOk F P w K mg base "lowest" 1 2 (SpP F 2 g_lowest) := by
  obtain ⟨f, fd, Fu, gm⟩ := T.f_lowest
  refine ⟨⟨f, fd, _, fn_pure T.hF (body := b_lowest) Fu sc_lowest rfl (by decide) (fun cdv A outer s H E c => ?_) (fun ds _ => rfl), gm, Fu.kp, Fu.binds fun _ _ _ _ _ _ us hl => match us, hl with | [_, _], _ => rfl⟩⟩
  exact (pss_cons' (ps_set' c (i := 2) (pv_gcd T.m_gcd (pa_cons' (pv_var 0) (pa_cons' (pv_var 1) pa_nil'))) (.inl rfl))
    (pss_cons' (ps_set' c (i := 2) (pv_ifExp (pb_cmp cm_gt (pv_var 1) pv_int) (pv_var 2) (pv_neg (pv_var 2))) (.inl rfl))
    (pss_one' (ps_ret' (pv_tup (pa_cons' (pv_div (pv_var 0) (pv_var 2)) (pa_cons' (pv_div (pv_var 1) (pv_var 2)) pa_nil')))))))
theorem dk_plus {F : Fx} {K : PySem.W.Frag} {mg : Str → Option Value} {P : Program} {w : World} {base : Heap} (T : Top F K mg base) : DOk F P w K mg base "plus" 2 2 (SpP F 2 g_plus) := by
  obtain ⟨f, fd, Fu, gm⟩ := T.f_plus
  refine ⟨⟨f, fd, _, fn_pure T.hF (body := b_plus) Fu sc_plus rfl (by decide) (fun cdv A outer s H E c => ?_) (fun ds _ => rfl), gm, Fu.kp, Fu.binds fun _ _ _ _ _ _ us hl => match us, hl with | [_, _], _ => rfl⟩⟩
  exact (pss_one' (ps_ret' (pv_call c (dk_lowest T) (by decide) (pa_cons' (pv_add c (pv_mul c (pv_ix c (pv_var 0) pv_int) (pv_ix c (pv_var 1) pv_int)) (pv_mul c (pv_ix c (pv_var 1) pv_int) (pv_ix c (pv_var 0) pv_int))) (pa_cons' (pv_mul c (pv_ix c (pv_var 0) pv_int) (pv_ix c (pv_var 1) pv_int)) pa_nil')))))
theorem dk_times {F : Fx} {K : PySem.W.Frag} {mg : Str → Option Value} {P : Program} {w : World} {base : Heap} (T : Top F K mg base) : DOk F P w K mg base "times" 2 2 (SpP F 2 g_times) := by
  obtain ⟨f, fd, Fu, gm⟩ := T.f_times
  refine ⟨⟨f, fd, _, fn_pure T.hF (body := b_times) Fu sc_times rfl (by decide) (fun cdv A outer s H E c => ?_) (fun ds _ => rfl), gm, Fu.kp, Fu.binds fun _ _ _ _ _ _ us hl => match us, hl with | [_, _], _ => rfl⟩⟩
  exact (pss_one' (ps_ret' (pv_call c (dk_lowest T) (by decide) (pa_cons' (pv_mul c (pv_ix c (pv_var 0) pv_int) (pv_ix c (pv_var 1) pv_int)) (pa_cons' (pv_mul c (pv_ix c (pv_var 0) pv_int) (pv_ix c (pv_var 1) pv_int)) pa_nil')))))
theorem dk_is_small {F : Fx} {K : PySem.W.Frag} {mg : Str → Option Value} {P : Program} {w : World} {base : Heap} (T : Top F K mg base) : DOk F P w K mg base "is_small" 3 1 (SpP F 1 g_is_small) := by
  obtain ⟨f, fd, Fu, gm⟩ := T.f_is_small
  refine ⟨⟨f, fd, _, fn_pure T.hF (body := b_is_small) Fu sc_is_small rfl (by decide) (fun cdv A outer s H E c => ?_) (fun ds _ => rfl), gm, Fu.kp, Fu.binds fun _ _ _ _ _ _ us hl => match us, hl with | [_], _ => rfl⟩⟩
  exact (pss_one' (ps_ret' (pv_and (pv_call c (dk_is_portion T) (by decide) (pa_cons' (pv_var 0) pa_nil')) (pv_one (pv_ch3 cm_le cm_le cm_le pv_int (pv_ix c (pv_var 0) pv_int) (pv_ix c (pv_var 0) pv_int) (pv_gl T.c_SMALL))))))
theorem dk_quotient {F : Fx} {K : PySem.W.Frag} {mg : Str → Option Value} {P : Program} {w : World} {base : Heap} (T : Top F K mg base) : DOk F P w K mg base "quotient" 2 2 (SpP F 2 g_quotient) := by
  obtain ⟨f, fd, Fu, gm⟩ := T.f_quotient
  refine ⟨⟨f, fd, _, fn_pure T.hF (body := b_quotient) Fu sc_quotient rfl (by decide) (fun cdv A outer s H E c => ?_) (fun ds _ => rfl), gm, Fu.kp, Fu.binds fun _ _ _ _ _ _ us hl => match us, hl with | [_, _], _ => rfl⟩⟩
  exact (pss_one' (ps_ret' (pv_call c (dk_lowest T) (by decide) (pa_cons' (pv_mul c (pv_ix c (pv_var 0) pv_int) (pv_ix c (pv_var 1) pv_int)) (pa_cons' (pv_mul c (pv_ix c (pv_var 0) pv_int) (pv_ix c (pv_var 1) pv_int)) pa_nil')))))
theorem dk_total {F : Fx} {K : PySem.W.Frag} {mg : Str → Option Value} {P : Program} {w : World} {base : Heap} (T : Top F K mg base) : DOk F P w K mg base "total" 3 1 (SpP F 1 g_total) := by
  obtain ⟨f, fd, Fu, gm⟩ := T.f_total
  refine ⟨⟨f, fd, _, fn_pure T.hF (body := b_total) Fu sc_total rfl (by decide) (fun cdv A outer s H E c => ?_) (fun ds _ => rfl), gm, Fu.kp, Fu.binds fun _ _ _ _ _ _ us hl => match us, hl with | [_], _ => rfl⟩⟩
  exact (pss_cons' (ps_set' c (i := 1) (pv_tup (pa_cons' pv_int (pa_cons' pv_int pa_nil'))) (.inl rfl))
    (pss_cons' (ps_for' c (pit_seq c (pv_var 0)) (ptg_name (i := 2) c.nd (.inl rfl)) (pss_one' (ps_set' c (i := 1) (pv_call c (dk_plus T) (by decide) (pa_cons' (pv_var 1) (pa_cons' (pv_var 2) pa_nil'))) (.inl rfl))))
    (pss_one' (ps_ret' (pv_var 1)))))
theorem dk_need_lives {F : Fx} {K : PySem.W.Frag} {mg : Str → Option Value} {P : Program} {w : World} {base : Heap} (T : Top F K mg base) : DOk F P w K mg base "need_lives" 4 1 (SpP F 1 g_need_lives) := by
  obtain ⟨f, fd, Fu, gm⟩ := T.f_need_lives
  refine ⟨⟨f, fd, _, fn_pure T.hF (body := b_need_lives) Fu sc_need_lives rfl (by decide) (fun cdv A outer s H E c => ?_) (fun ds _ => rfl), gm, Fu.kp, Fu.binds fun _ _ _ _ _ _ us hl => match us, hl with | [_], _ => rfl⟩⟩
  exact (pss_cons' (ps_if' (PBW.pb (pb_or (pb_not (pb_val (pv_call c (dk_is_tuple_of T) (by decide) (pa_cons' (pv_var 0) (pa_cons' pv_int (pa_cons' (pv_gl T.c_LONG) pa_nil')))))) (pb_or1 (pb_not (pb_val (pv_all c T.z_all (pa_cons' (PN.pv (pn_lc (own := [("part", 1)]) c (pit_seq c (pv_var 0)) (by rfl) (fun _ _ _ _ _ c' => (ptg_name (i := 1) c'.nd (.inl rfl))) (fun _ _ _ _ _ c' => pts_nil') (fun _ _ _ _ _ c' => (pv_call c' (dk_is_small T) (by decide) (pa_cons' (pv_var 1) pa_nil'))) (.inl rfl) (by decide))) pa_nil'))))))) (pss_one' (ps_raise' c (ci := 1) T.e_InvalidRow)) pss_nil')
    (pss_one' (ps_if' (PBW.pb (pb_or (pb_cmp (cm_ne c) (pv_call c (dk_total T) (by decide) (pa_cons' (pv_var 0) pa_nil')) (pv_tup (pa_cons' pv_int (pa_cons' pv_int pa_nil')))) (pb_or1 (pb_cmp (cm_eq c) (pv_ix c (pv_ix c (pv_var 0) (pv_neg pv_int)) pv_int) pv_int)))) (pss_one' (ps_raise' c (ci := 1) T.e_InvalidRow)) pss_nil')))
theorem dk_news_in {F : Fx} {K : PySem.W.Frag} {mg : Str → Option Value} {P : Program} {w : World} {base : Heap} (T : Top F K mg base) : DOk F P w K mg base "news_in" 4 2 (SpP F 2 g_news_in) := by
  obtain ⟨f, fd, Fu, gm⟩ := T.f_news_in
  refine ⟨⟨f, fd, _, fn_pure T.hF (body := b_news_in) Fu sc_news_in rfl (by decide) (fun cdv A outer s H E c => ?_) (fun ds _ => rfl), gm, Fu.kp, Fu.binds fun _ _ _ _ _ _ us hl => match us, hl with | [_, _], _ => rfl⟩⟩
  exact (pss_cons' (ps_own' c (i := 2) (pn_lst (pa_cons' (pv_tup (pa_cons' pv_int (pa_cons' pv_int pa_nil'))) pa_nil')) (.inl rfl))
    (pss_cons' (ps_for' c (pit_range2 T.z_range (pa_cons' pv_int (pa_cons' (pv_add c (pv_var 1) pv_int) pa_nil'))) (ptg_name (i := 3) c.nd (.inl rfl)) (pss_one' (ps_append' (i := 2) (pv_call c (dk_total T) (by decide) (pa_cons' (PN.pv (pn_lc (own := [("k", 4), ("part", 5)]) c (pit_enum2 c T.z_enumerate (pa_cons' (pv_var 0) (pa_cons' pv_int pa_nil'))) (by rfl) (fun _ _ _ _ _ c' => (ptg_tup c' (ptgs_cons (ptg_name (i := 4) c'.nd (.inl rfl)) (ptgs_cons (ptg_name (i := 5) c'.nd (.inl rfl)) ptgs_nil)))) (fun _ _ _ _ _ c' => (pts_one' (pb_cmp cm_le (pv_var 4) (pv_var 3)))) (fun _ _ _ _ _ c' => (pv_call c' (dk_times T) (by decide) (pa_cons' (pv_var 5) (pa_cons' (pv_ixV c' 2 (pv_sub (pv_var 3) (pv_var 4))) pa_nil')))) (.inl rfl) (by decide))) pa_nil')))))
    (pss_one' (ps_ret' (pv_frz 2 (.inl rfl))))))
theorem dk_longer_in {F : Fx} {K : PySem.W.Frag} {mg : Str → Option Value} {P : Program} {w : World} {base : Heap} (T : Top F K mg base) : DOk F P w K mg base "longer_in" 4 1 (SpP F 1 g_longer_in) := by
  obtain ⟨f, fd, Fu, gm⟩ := T.f_longer_in
  refine ⟨⟨f, fd, _, fn_pure T.hF (body := b_longer_in) Fu sc_longer_in rfl (by decide) (fun cdv A outer s H E c => ?_) (fun ds _ => rfl), gm, Fu.kp, Fu.binds fun _ _ _ _ _ _ us hl => match us, hl with | [_], _ => rfl⟩⟩
  exact (pss_one' (ps_ret' (PN.pv (pn_lc (own := [("age", 1)]) c (pit_range1 T.z_range (pa_cons' (pv_len c T.z_len (pa_cons' (pv_var 0) pa_nil')) pa_nil')) (by rfl) (fun _ _ _ _ _ c' => (ptg_name (i := 1) c'.nd (.inl rfl))) (fun _ _ _ _ _ c' => pts_nil') (fun _ _ _ _ _ c' => (pv_call c' (dk_total T) (by decide) (pa_cons' (pv_slice c' (pv_var 0) (po_some' (pv_var 1)) po_none') pa_nil'))) (.inl rfl) (by decide)))))
theorem dk_mean_in {F : Fx} {K : PySem.W.Frag} {mg : Str → Option Value} {P : Program} {w : World} {base : Heap} (T : Top F K mg base) : DOk F P w K mg base "mean_in" 4 1 (SpP F 1 g_mean_in) := by
  obtain ⟨f, fd, Fu, gm⟩ := T.f_mean_in
  refine ⟨⟨f, fd, _, fn_pure T.hF (body := b_mean_in) Fu sc_mean_in rfl (by decide) (fun cdv A outer s H E c => ?_) (fun ds _ => rfl), gm, Fu.kp, Fu.binds fun _ _ _ _ _ _ us hl => match us, hl with | [_], _ => rfl⟩⟩
  exact (pss_one' (ps_ret' (pv_call c (dk_total T) (by decide) (pa_cons' (PN.pv (pn_lc (own := [("k", 1), ("part", 2)]) c (pit_enum2 c T.z_enumerate (pa_cons' (pv_var 0) (pa_cons' pv_int pa_nil'))) (by rfl) (fun _ _ _ _ _ c' => (ptg_tup c' (ptgs_cons (ptg_name (i := 1) c'.nd (.inl rfl)) (ptgs_cons (ptg_name (i := 2) c'.nd (.inl rfl)) ptgs_nil)))) (fun _ _ _ _ _ c' => pts_nil') (fun _ _ _ _ _ c' => (pv_call c' (dk_times T) (by decide) (pa_cons' (pv_tup (pa_cons' (pv_var 1) (pa_cons' pv_int pa_nil'))) (pa_cons' (pv_var 2) pa_nil')))) (.inl rfl) (by decide))) pa_nil'))))
theorem dk_need_both {F : Fx} {K : PySem.W.Frag} {mg : Str → Option Value} {P : Program} {w : World} {base : Heap} (T : Top F K mg base) : DOk F P w K mg base "need_both" 5 2 (SpP F 2 g_need_both) := by
  obtain ⟨f, fd, Fu, gm⟩ := T.f_need_both
  refine ⟨⟨f, fd, _, fn_pure T.hF (body := b_need_both) Fu sc_need_both rfl (by decide) (fun cdv A outer s H E c => ?_) (fun ds _ => rfl), gm, Fu.kp, Fu.binds fun _ _ _ _ _ _ us hl => match us, hl with | [_, _], _ => rfl⟩⟩
  exact (pss_cons' (ps_expr' (pv_call c (dk_need_lives T) (by decide) (pa_cons' (pv_var 0) pa_nil')))
    (pss_one' (ps_expr' (pv_call c (dk_need_whole T) (by decide) (pa_cons' (pv_var 1) (pa_cons' pv_int (pa_cons' (pv_gl T.c_STEPS) pa_nil')))))))
theorem dk_new_chances {F : Fx} {K : PySem.W.Frag} {mg : Str → Option Value} {P : Program} {w : World} {base : Heap} (T : Top F K mg base) : DOk F P w K mg base "new_chances" 6 2 (SpP F 2 g_new_chances) := by
  obtain ⟨f, fd, Fu, gm⟩ := T.f_new_chances
  refine ⟨⟨f, fd, _, fn_pure T.hF (body := b_new_chances) Fu sc_new_chances rfl (by decide) (fun cdv A outer s H E c => ?_) (fun ds _ => rfl), gm, Fu.kp, Fu.binds fun _ _ _ _ _ _ us hl => match us, hl with | [_, _], _ => rfl⟩⟩
  exact (pss_cons' (ps_expr' (pv_call c (dk_need_both T) (by decide) (pa_cons' (pv_var 0) (pa_cons' (pv_var 1) pa_nil'))))
    (pss_one' (ps_ret' (pv_tuple c T.z_tuple (pa_cons' (pv_call c (dk_news_in T) (by decide) (pa_cons' (pv_var 0) (pa_cons' (pv_var 1) pa_nil'))) pa_nil')))))
theorem dk_count_new {F : Fx} {K : PySem.W.Frag} {mg : Str → Option Value} {P : Program} {w : World} {base : Heap} (T : Top F K mg base) : DOk F P w K mg base "count_new" 6 2 (SpP F 2 g_count_new) := by
  obtain ⟨f, fd, Fu, gm⟩ := T.f_count_new
  refine ⟨⟨f, fd, _, fn_pure T.hF (body := b_count_new) Fu sc_count_new rfl (by decide) (fun cdv A outer s H E c => ?_) (fun ds _ => rfl), gm, Fu.kp, Fu.binds fun _ _ _ _ _ _ us hl => match us, hl with | [_, _], _ => rfl⟩⟩
  exact (pss_cons' (ps_expr' (pv_call c (dk_need_both T) (by decide) (pa_cons' (pv_var 0) (pa_cons' (pv_var 1) pa_nil'))))
    (pss_one' (ps_ret' (pv_call c (dk_total T) (by decide) (pa_cons' (pv_slice c (pv_call c (dk_news_in T) (by decide) (pa_cons' (pv_var 0) (pa_cons' (pv_var 1) pa_nil'))) (po_some' pv_int) po_none') pa_nil')))))
theorem dk_mean_life {F : Fx} {K : PySem.W.Frag} {mg : Str → Option Value} {P : Program} {w : World} {base : Heap} (T : Top F K mg base) : DOk F P w K mg base "mean_life" 5 1 (SpP F 1 g_mean_life) := by
  obtain ⟨f, fd, Fu, gm⟩ := T.f_mean_life
  refine ⟨⟨f, fd, _, fn_pure T.hF (body := b_mean_life) Fu sc_mean_life rfl (by decide) (fun cdv A outer s H E c => ?_) (fun ds _ => rfl), gm, Fu.kp, Fu.binds fun _ _ _ _ _ _ us hl => match us, hl with | [_], _ => rfl⟩⟩
  exact (pss_cons' (ps_expr' (pv_call c (dk_need_lives T) (by decide) (pa_cons' (pv_var 0) pa_nil')))
    (pss_one' (ps_ret' (pv_call c (dk_mean_in T) (by decide) (pa_cons' (pv_var 0) pa_nil')))))
theorem dk_ages_at {F : Fx} {K : PySem.W.Frag} {mg : Str → Option Value} {P : Program} {w : World} {base : Heap} (T : Top F K mg base) : DOk F P w K mg base "ages_at" 6 2 (SpP F 2 g_ages_at) := by
  obtain ⟨f, fd, Fu, gm⟩ := T.f_ages_at
  refine ⟨⟨f, fd, _, fn_pure T.hF (body := b_ages_at) Fu sc_ages_at rfl (by decide) (fun cdv A outer s H E c => ?_) (fun ds _ => rfl), gm, Fu.kp, Fu.binds fun _ _ _ _ _ _ us hl => match us, hl with | [_, _], _ => rfl⟩⟩
  exact (pss_cons' (ps_expr' (pv_call c (dk_need_both T) (by decide) (pa_cons' (pv_var 0) (pa_cons' (pv_var 1) pa_nil'))))
    (pss_cons' (ps_set' c (i := 2) (pv_call c (dk_news_in T) (by decide) (pa_cons' (pv_var 0) (pa_cons' (pv_var 1) pa_nil'))) (.inl rfl))
    (pss_cons' (ps_set' c (i := 3) (pv_call c (dk_longer_in T) (by decide) (pa_cons' (pv_var 0) pa_nil')) (.inl rfl))
    (pss_one' (ps_ret' (pv_tuple c T.z_tuple (pa_cons' (PN.pv (pn_lc (own := [("age", 4), ("own", 5)]) c (pit_enum c T.z_enumerate (pa_cons' (pv_var 3) pa_nil')) (by rfl) (fun _ _ _ _ _ c' => (ptg_tup c' (ptgs_cons (ptg_name (i := 4) c'.nd (.inl rfl)) (ptgs_cons (ptg_name (i := 5) c'.nd (.inl rfl)) ptgs_nil)))) (fun _ _ _ _ _ c' => pts_nil') (fun _ _ _ _ _ c' => (pv_ifExp (pb_cmp cm_le (pv_var 4) (pv_var 1)) (pv_call c' (dk_times T) (by decide) (pa_cons' (pv_ix c' (pv_var 2) (pv_sub (pv_var 1) (pv_var 4))) (pa_cons' (pv_var 5) pa_nil'))) (pv_tup (pa_cons' pv_int (pa_cons' pv_int pa_nil'))))) (.inl rfl) (by decide))) pa_nil')))))))
theorem dk_long_ages {F : Fx} {K : PySem.W.Frag} {mg : Str → Option Value} {P : Program} {w : World} {base : Heap} (T : Top F K mg base) : DOk F P w K mg base "long_ages" 5 1 (SpP F 1 g_long_ages) := by
  obtain ⟨f, fd, Fu, gm⟩ := T.f_long_ages
  refine ⟨⟨f, fd, _, fn_pure T.hF (body := b_long_ages) Fu sc_long_ages rfl (by decide) (fun cdv A outer s H E c => ?_) (fun ds _ => rfl), gm, Fu.kp, Fu.binds fun _ _ _ _ _ _ us hl => match us, hl with | [_], _ => rfl⟩⟩
  exact (pss_cons' (ps_expr' (pv_call c (dk_need_lives T) (by decide) (pa_cons' (pv_var 0) pa_nil')))
    (pss_cons' (ps_set' c (i := 1) (pv_call c (dk_mean_in T) (by decide) (pa_cons' (pv_var 0) pa_nil')) (.inl rfl))
    (pss_one' (ps_ret' (pv_tuple c T.z_tuple (pa_cons' (PN.pv (pn_lc (own := [("own", 2)]) c (pit_seq c (pv_call c (dk_longer_in T) (by decide) (pa_cons' (pv_var 0) pa_nil'))) (by rfl) (fun _ _ _ _ _ c' => (ptg_name (i := 2) c'.nd (.inl rfl))) (fun _ _ _ _ _ c' => pts_nil') (fun _ _ _ _ _ c' => (pv_call c' (dk_quotient T) (by decide) (pa_cons' (pv_var 2) (pa_cons' (pv_var 1) pa_nil')))) (.inl rfl) (by decide))) pa_nil'))))))
theorem dk__law_cup {F : Fx} {K : PySem.W.Frag} {mg : Str → Option Value} {P : Program} {w : World} {base : Heap} (T : Top F K mg base) : DOk F P w K mg base "_law_cup" 1 1 (SpN F 1 g__law_cup) := by
  obtain ⟨f, fd, Fu, gm⟩ := T.f__law_cup
  refine ⟨⟨f, fd, _, fn_new T.hF (f1 := b1__law_cup) (f2 := b2__law_cup) Fu sc__law_cup rfl (by decide) rfl (fun cdv A outer s H E c => ⟨?_, ?_⟩) (fun ds es _ h => ?_), gm, Fu.kp, Fu.binds fun _ _ _ _ _ _ us hl => match us, hl with | [_], _ => rfl⟩⟩
  · exact (ps_set' c (i := 1) (pv_abs T.z_abs (pa_cons' (pv_ix c (pv_add c (PN.pv (pn_list c T.z_list (pa_cons' (pv_var 0) pa_nil'))) (PN.pv (pn_lst (pa_cons' pv_int pa_nil')))) pv_int) pa_nil')) (.inl rfl))
  · exact (pn_lst (pa_cons' (pv_ifExp (pb_cmp cm_ge (pv_var 1) (pv_pow pv_int pv_int)) (pv_div (pv_var 1) pv_int) pv_int) (pa_cons' (pv_add c (pv_mod (pv_intc T.z_int (pa_cons' (pv_add c (pv_mul c (pv_var 1) pv_int) pv_int) pa_nil')) pv_int) pv_int) pa_nil')))
  · exact newRet h
theorem dk__law_roll {F : Fx} {K : PySem.W.Frag} {mg : Str → Option Value} {P : Program} {w : World} {base : Heap} (T : Top F K mg base) : DOk F P w K mg base "_law_roll" 1 2 (SpC F 1 g__law_roll) := by
  obtain ⟨f, fd, Fu, gm⟩ := T.f__law_roll
  refine ⟨⟨f, fd, _, fn_cup T.hF (body := b__law_roll) Fu sc__law_roll rfl (by decide) (fun p cdv A outer s H E c => ?_) (fun cs ds _ => rfl), gm, Fu.kp, Fu.binds fun _ _ _ _ _ _ us hl => match us, hl with | [_, _], _ => rfl⟩⟩
  exact (pss_cons' (ps_if' (pb_cmp cm_gt (pv_ixV c 0 pv_int) pv_int) (pss_cons' (ps_set' c (i := 2) (pv_mod (pv_intc T.z_int (pa_cons' (pv_ixV c 0 pv_int) pa_nil')) (pv_var 1)) (.inr (by decide)))
    (pss_cons' (ps_setIx' (i := 0) (pv_div (pv_ixV c 0 pv_int) (pv_var 1)) pv_int)
    (pss_one' (ps_ret' (pv_var 2))))) pss_nil')
    (pss_cons' (ps_setIx' (i := 0) (pv_mod (pv_intc T.z_int (pa_cons' (pv_add c (pv_mul c (pv_ixV c 0 pv_int) pv_int) pv_int) pa_nil')) pv_int) pv_int)
    (pss_one' (ps_ret' (pv_mod (pv_intc T.z_int (pa_cons' (pv_div (pv_ixV c 0 pv_int) pv_int) pa_nil')) (pv_var 1))))))
theorem dk__law_some {F : Fx} {K : PySem.W.Frag} {mg : Str → Option Value} {P : Program} {w : World} {base : Heap} (T : Top F K mg base) : DOk F P w K mg base "_law_some" 2 2 (SpC F 1 g__law_some) := by
  obtain ⟨f, fd, Fu, gm⟩ := T.f__law_some
  refine ⟨⟨f, fd, _, fn_cup T.hF (body := b__law_some) Fu sc__law_some rfl (by decide) (fun p cdv A outer s H E c => ?_) (fun cs ds _ => rfl), gm, Fu.kp, Fu.binds fun _ _ _ _ _ _ us hl => match us, hl with | [_, _], _ => rfl⟩⟩
  exact (pss_one' (ps_ret' (pv_ix c (pv_var 1) (pv_callC c 0 (dk__law_roll T) (by decide) (pa_cons' (pv_len c T.z_len (pa_cons' (pv_var 1) pa_nil')) pa_nil')))))
theorem dk__law_sort {F : Fx} {K : PySem.W.Frag} {mg : Str → Option Value} {P : Program} {w : World} {base : Heap} (T : Top F K mg base) : DOk F P w K mg base "_law_sort" 1 1 (SpP F 1 g__law_sort) := by
  obtain ⟨f, fd, Fu, gm⟩ := T.f__law_sort
  refine ⟨⟨f, fd, _, fn_pure T.hF (body := b__law_sort) Fu sc__law_sort rfl (by decide) (fun cdv A outer s H E c => ?_) (fun ds _ => rfl), gm, Fu.kp, Fu.binds fun _ _ _ _ _ _ us hl => match us, hl with | [_], _ => rfl⟩⟩
  exact (pss_cons' (ps_if' (PBW.pb (pb_or (pb_cmp cm_isN (pv_var 0) pv_non) (pb_or1 (pb_val (pv_isi c (T := "bool") T.z_isinstance T.z_bool (by decide +kernel) (pv_var 0)))))) (pss_one' (ps_ret' (pv_ifExp (pb_cmp cm_isN (pv_var 0) pv_non) pv_int pv_int))) pss_nil')
    (pss_cons' (ps_if' (PBW.pb (pb_or (pb_val (pv_isi c (T := "int") T.z_isinstance T.z_int (by decide +kernel) (pv_var 0))) (pb_or1 (pb_val (pv_isi c (T := "str") T.z_isinstance T.z_str (by decide +kernel) (pv_var 0)))))) (pss_one' (ps_ret' (pv_ifExp (pb_val (pv_isi c (T := "int") T.z_isinstance T.z_int (by decide +kernel) (pv_var 0))) pv_int pv_int))) pss_nil')
    (pss_one' (ps_ret' (pv_ifExp (pb_val (pv_isi c (T := "tuple") T.z_isinstance T.z_tuple (by decide +kernel) (pv_var 0))) pv_int (pv_ifExp (pb_val (pv_isi c (T := "list") T.z_isinstance T.z_list (by decide +kernel) (pv_var 0))) pv_int pv_int))))))
theorem dk__law_like {F : Fx} {K : PySem.W.Frag} {mg : Str → Option Value} {P : Program} {w : World} {base : Heap} (T : Top F K mg base) (m : Nat) : DOk F P w K mg base "_law_like" (2 + m) 2 (SpP F 2 (g__law_like m)) := by
  obtain ⟨f, fd, Fu, gm⟩ := T.f__law_like
  have bd : Binds K fd ["one", "other"] [] := Fu.binds fun _ _ _ _ _ _ us hl => match us, hl with | [_, _], _ => rfl
  induction m with
  | zero => exact ⟨⟨f, fd, _, fn_none Fu sc__law_like rfl, gm, Fu.kp, bd⟩⟩
  | succ m ih =>
    refine ⟨⟨f, fd, _, fn_pure T.hF (body := b__law_like (g__law_like m)) Fu sc__law_like rfl (by decide) (fun cdv A outer s H E c => ?_) (fun ds _ => rfl), gm, Fu.kp, bd⟩⟩
    exact (pss_cons' (ps_set' c (i := 2) (pv_call c (dk__law_sort T) (Nat.le_add_right_of_le (by decide)) (pa_cons' (pv_var 1) pa_nil')) (.inl rfl))
    (pss_cons' (ps_if' (PBW.pb (pb_or (pb_cmp (cm_ne c) (pv_call c (dk__law_sort T) (Nat.le_add_right_of_le (by decide)) (pa_cons' (pv_var 0) pa_nil')) (pv_var 2)) (pb_or1 (pb_cmp (cm_eq c) (pv_var 2) pv_int)))) (pss_one' (ps_ret' pv_bl)) pss_nil')
    (pss_cons' (ps_if' (pb_cmp (cm_in c) (pv_var 2) (pv_tup (pa_cons' pv_int (pa_cons' pv_int pa_nil')))) (pss_one' (ps_ret' (pv_and (pv_cmp (cm_eq c) (pv_len c T.z_len (pa_cons' (pv_var 0) pa_nil')) (pv_len c T.z_len (pa_cons' (pv_var 1) pa_nil'))) (pv_one (pv_cmp (cm_eq c) (PN.pv (pn_lc (own := [("first", 3), ("second", 4)]) c (pit_zip c T.z_zip (pa_cons' (pv_var 0) (pa_cons' (pv_var 1) pa_nil'))) (by rfl) (fun _ _ _ _ _ c' => (ptg_tup c' (ptgs_cons (ptg_name (i := 3) c'.nd (.inl rfl)) (ptgs_cons (ptg_name (i := 4) c'.nd (.inl rfl)) ptgs_nil)))) (fun _ _ _ _ _ c' => (pts_one' (pb_not (pb_val (pv_call c' ih (Nat.le_refl _) (pa_cons' (pv_var 3) (pa_cons' (pv_var 4) pa_nil'))))))) (fun _ _ _ _ _ c' => pv_int) (.inl rfl) (by decide))) (PN.pv (pn_lst pa_nil'))))))) pss_nil')
    (pss_one' (ps_ret' (pv_cmp (cm_eq c) (pv_var 0) (pv_var 1)))))))
theorem dk__law_low {F : Fx} {K : PySem.W.Frag} {mg : Str → Option Value} {P : Program} {w : World} {base : Heap} (T : Top F K mg base) : DOk F P w K mg base "_law_low" 1 2 (SpP F 2 g__law_low) := by
  obtain ⟨f, fd, Fu, gm⟩ := T.f__law_low
  refine ⟨⟨f, fd, _, fn_pure T.hF (body := b__law_low) Fu sc__law_low rfl (by decide) (fun cdv A outer s H E c => ?_) (fun ds _ => rfl), gm, Fu.kp, Fu.binds fun _ _ _ _ _ _ us hl => match us, hl with | [_, _], _ => rfl⟩⟩
  exact (pss_cons' (ps_par2' c (i := 2) (j := 3) (psl_p (pv_abs T.z_abs (pa_cons' (pv_var 0) pa_nil'))) (psl_p (pv_abs T.z_abs (pa_cons' (pv_var 1) pa_nil'))) (.inl rfl) (.inl rfl) (by decide))
    (pss_cons' (ps_for' c (pit_range1 T.z_range (pa_cons' pv_int pa_nil')) (ptg_name (i := 4) c.nd (.inl rfl)) (pss_cons' (ps_if' (pb_cmp (cm_eq c) (pv_var 3) pv_int) (pss_one' (ps_ret' (pv_ifExp (pb_cmp cm_gt (pv_var 1) pv_int) (pv_tup (pa_cons' (pv_div (pv_var 0) (pv_var 2)) (pa_cons' (pv_div (pv_var 1) (pv_var 2)) pa_nil'))) (pv_tup (pa_cons' (pv_div (pv_neg (pv_var 0)) (pv_var 2)) (pa_cons' (pv_div (pv_neg (pv_var 1)) (pv_var 2)) pa_nil')))))) pss_nil')
    (pss_one' (ps_par2' c (i := 2) (j := 3) (psl_p (pv_var 3)) (psl_p (pv_mod (pv_intc T.z_int (pa_cons' (pv_var 2) pa_nil')) (pv_var 3))) (.inl rfl) (.inl rfl) (by decide)))))
    (pss_one' (ps_ret' (pv_tup (pa_cons' (pv_var 0) (pa_cons' (pv_var 1) pa_nil')))))))
theorem dk__law_plus {F : Fx} {K : PySem.W.Frag} {mg : Str → Option Value} {P : Program} {w : World} {base : Heap} (T : Top F K mg base) : DOk F P w K mg base "_law_plus" 2 2 (SpP F 2 g__law_plus) := by
  obtain ⟨f, fd, Fu, gm⟩ := T.f__law_plus
  refine ⟨⟨f, fd, _, fn_pure T.hF (body := b__law_plus) Fu sc__law_plus rfl (by decide) (fun cdv A outer s H E c => ?_) (fun ds _ => rfl), gm, Fu.kp, Fu.binds fun _ _ _ _ _ _ us hl => match us, hl with | [_, _], _ => rfl⟩⟩
  exact (pss_one' (ps_ret' (pv_call c (dk__law_low T) (by decide) (pa_cons' (pv_add c (pv_mul c (pv_ix c (pv_var 0) pv_int) (pv_ix c (pv_var 1) pv_int)) (pv_mul c (pv_ix c (pv_var 1) pv_int) (pv_ix c (pv_var 0) pv_int))) (pa_cons' (pv_mul c (pv_ix c (pv_var 0) pv_int) (pv_ix c (pv_var 1) pv_int)) pa_nil')))))
theorem dk__law_times {F : Fx} {K : PySem.W.Frag} {mg : Str → Option Value} {P : Program} {w : World} {base : Heap} (T : Top F K mg base) : DOk F P w K mg base "_law_times" 2 2 (SpP F 2 g__law_times) := by
  obtain ⟨f, fd, Fu, gm⟩ := T.f__law_times
  refine ⟨⟨f, fd, _, fn_pure T.hF (body := b__law_times) Fu sc__law_times rfl (by decide) (fun cdv A outer s H E c => ?_) (fun ds _ => rfl), gm, Fu.kp, Fu.binds fun _ _ _ _ _ _ us hl => match us, hl with | [_, _], _ => rfl⟩⟩
  exact (pss_one' (ps_ret' (pv_call c (dk__law_low T) (by decide) (pa_cons' (pv_mul c (pv_ix c (pv_var 0) pv_int) (pv_ix c (pv_var 1) pv_int)) (pa_cons' (pv_mul c (pv_ix c (pv_var 0) pv_int) (pv_ix c (pv_var 1) pv_int)) pa_nil')))))
theorem dk__law_less {F : Fx} {K : PySem.W.Frag} {mg : Str → Option Value} {P : Program} {w : World} {base : Heap} (T : Top F K mg base) : DOk F P w K mg base "_law_less" 2 2 (SpP F 2 g__law_less) := by
  obtain ⟨f, fd, Fu, gm⟩ := T.f__law_less
  refine ⟨⟨f, fd, _, fn_pure T.hF (body := b__law_less) Fu sc__law_less rfl (by decide) (fun cdv A outer s H E c => ?_) (fun ds _ => rfl), gm, Fu.kp, Fu.binds fun _ _ _ _ _ _ us hl => match us, hl with | [_, _], _ => rfl⟩⟩
  exact (pss_one' (ps_ret' (pv_call c (dk__law_low T) (by decide) (pa_cons' (pv_sub (pv_mul c (pv_ix c (pv_var 0) pv_int) (pv_ix c (pv_var 1) pv_int)) (pv_mul c (pv_ix c (pv_var 1) pv_int) (pv_ix c (pv_var 0) pv_int))) (pa_cons' (pv_mul c (pv_ix c (pv_var 0) pv_int) (pv_ix c (pv_var 1) pv_int)) pa_nil')))))
theorem dk__law_sum {F : Fx} {K : PySem.W.Frag} {mg : Str → Option Value} {P : Program} {w : World} {base : Heap} (T : Top F K mg base) : DOk F P w K mg base "_law_sum" 3 1 (SpP F 1 g__law_sum) := by
  obtain ⟨f, fd, Fu, gm⟩ := T.f__law_sum
  refine ⟨⟨f, fd, _, fn_pure T.hF (body := b__law_sum) Fu sc__law_sum rfl (by decide) (fun cdv A outer s H E c => ?_) (fun ds _ => rfl), gm, Fu.kp, Fu.binds fun _ _ _ _ _ _ us hl => match us, hl with | [_], _ => rfl⟩⟩
  exact (pss_cons' (ps_set' c (i := 1) (pv_tup (pa_cons' pv_int (pa_cons' pv_int pa_nil'))) (.inl rfl))
    (pss_cons' (ps_for' c (pit_seq c (pv_var 0)) (ptg_name (i := 2) c.nd (.inl rfl)) (pss_one' (ps_set' c (i := 1) (pv_call c (dk__law_plus T) (by decide) (pa_cons' (pv_var 1) (pa_cons' (pv_var 2) pa_nil'))) (.inl rfl))))
    (pss_one' (ps_ret' (pv_var 1)))))
theorem dk__law_no_small {F : Fx} {K : PySem.W.Frag} {mg : Str → Option Value} {P : Program} {w : World} {base : Heap} (T : Top F K mg base) : DOk F P w K mg base "_law_no_small" 1 0 (SpP F 0 g__law_no_small) := by
  obtain ⟨f, fd, Fu, gm⟩ := T.f__law_no_small
  refine ⟨⟨f, fd, _, fn_pure T.hF (body := b__law_no_small) Fu sc__law_no_small rfl (by decide) (fun cdv A outer s H E c => ?_) (fun ds _ => rfl), gm, Fu.kp, Fu.binds fun _ _ _ _ _ _ us hl => match us, hl with | [], _ => rfl⟩⟩
  exact (pss_one' (ps_ret' (PN.pv (pn_lst (pa_cons' pv_non (pa_cons' (pv_tup pa_nil') (pa_cons' (pv_tup (pa_cons' pv_int pa_nil')) (pa_cons' (pv_tup (pa_cons' (pv_neg pv_int) (pa_cons' pv_int pa_nil'))) (pa_cons' (pv_tup (pa_cons' pv_int (pa_cons' pv_int pa_nil'))) (pa_cons' (pv_tup (pa_cons' pv_int (pa_cons' pv_int pa_nil'))) (pa_cons' (pv_tup (pa_cons' pv_int (pa_cons' pv_int pa_nil'))) (pa_cons' (pv_tup (pa_cons' pv_int (pa_cons' pv_int pa_nil'))) (pa_cons' (pv_tup (pa_cons' pv_bl (pa_cons' pv_int pa_nil'))) (pa_cons' (PN.pv (pn_lst (pa_cons' pv_int (pa_cons' pv_int pa_nil')))) (pa_cons' pv_int (pa_cons' (pv_tup (pa_cons' pv_int (pa_cons' pv_int (pa_cons' pv_int pa_nil')))) (pa_cons' (pv_tup (pa_cons' pv_int (pa_cons' pv_int pa_nil'))) pa_nil')))))))))))))))))
theorem wd__law_fails : ∀ c, okE c = true → ∃ ε2, b__law_fails c (startX 6 1) = .rt (.str (wdE c)) ε2 := by
  intro c h
  match c, h with
  | 0, _ => exact rt_some (by kernel_rfl)
  | 1, _ => exact rt_some (by kernel_rfl)
  | c + 2, h => first | (simp [okE, Nat.blt] at h; done) | (simp [okE, Nat.blt] at h; omega)
theorem ef__law_fails {F : Fx} {K : PySem.W.Frag} {mg : Str → Option Value} {P : Program} {w : World} {base : Heap} (T : Top F K mg base) : EFn F P w K mg base "_law_fails" "call" "" okE wdE := by
  obtain ⟨f, fd, Fu, gm⟩ := T.f__law_fails
  refine efn_of T.hF (i := 1) (CR := F.ca 2) Fu gm sc__law_fails rfl rfl (Or.inl rfl) rfl rfl rfl T.root (by decide) T.ks (Fu.binds fun _ _ _ _ _ _ us hl => match us, hl with | [_], _ => rfl) (fun cdv A stack s H e oe pn cc hok hz hd ch => ?_)
  obtain ⟨ε2, he⟩ := wd__law_fails cc hok
  exact ⟨b__law_fails cc, ε2, (pss_cons' (psH_own ch (i := 2) (pn_lst pa_nil') (.inl rfl))
    (pss_cons' (ps_append' (i := 2) (pv_tup (pa_cons' pv_str (pa_cons' (pvH_isE (i := 1) (Dc := F.ca cc) (Cc := F.ca 0) rfl (T.xs cc hok) hz hd (T.kt cc 0 hok (by decide)) T.z_isinstance T.e_InvalidNumber.gC) pa_nil'))))
    (pss_cons' (ps_append' (i := 2) (pv_tup (pa_cons' pv_str (pa_cons' (pvH_isE (i := 1) (Dc := F.ca cc) (Cc := F.ca 1) rfl (T.xs cc hok) hz hd (T.kt cc 1 hok (by decide)) T.z_isinstance T.e_InvalidRow.gC) pa_nil'))))
    (pss_cons' (psH_setLc (i := 3) (own := [("word", 4), ("good", 5)]) ch (pitH_seq (pv_frz 2 (.inl rfl))) (by rfl) (fun _ _ _ _ _ ch' => (ptgH_tup ch' (ptgs_cons (ptg_name (i := 4) ch'.nd (.inl rfl)) (ptgs_cons (ptg_name (i := 5) ch'.nd (.inl rfl)) ptgs_nil)))) (fun _ _ _ _ _ ch' => (pts_one' (pb_val (pv_var 5)))) (fun _ _ _ _ _ ch' => (pv_var 4)) (.inl rfl) (by decide) (.inl rfl))
    (pss_one' (ps_ret' (pv_ifExp (pb_cmp (cmH_ne ch) (pv_var 3) (PN.pv (pn_lst pa_nil'))) (pv_join ch.hK pv_str (pv_var 3)) pv_str))))))), he⟩
theorem dk__law_news {F : Fx} {K : PySem.W.Frag} {mg : Str → Option Value} {P : Program} {w : World} {base : Heap} (T : Top F K mg base) : DOk F P w K mg base "_law_news" 3 2 (SpP F 2 g__law_news) := by
  obtain ⟨f, fd, Fu, gm⟩ := T.f__law_news
  refine ⟨⟨f, fd, _, fn_pure T.hF (body := b__law_news) Fu sc__law_news rfl (by decide) (fun cdv A outer s H E c => ?_) (fun ds _ => rfl), gm, Fu.kp, Fu.binds fun _ _ _ _ _ _ us hl => match us, hl with | [_, _], _ => rfl⟩⟩
  exact (pss_cons' (ps_par2' c (i := 2) (j := 3) (psl_p (pv_add c (PN.pv (pn_lst (pa_cons' (pv_tup (pa_cons' pv_int (pa_cons' pv_int pa_nil'))) pa_nil'))) (pv_mul c (PN.pv (pn_lst (pa_cons' (pv_tup (pa_cons' pv_int (pa_cons' pv_int pa_nil'))) pa_nil'))) (pv_var 1)))) (psl_p (pv_add c (PN.pv (pn_lst (pa_cons' (pv_tup (pa_cons' pv_int (pa_cons' pv_int pa_nil'))) pa_nil'))) (pv_mul c (PN.pv (pn_lst (pa_cons' (pv_tup (pa_cons' pv_int (pa_cons' pv_int pa_nil'))) pa_nil'))) (pv_var 1)))) (.inl rfl) (.inl rfl) (by decide))
    (pss_cons' (ps_for' c (pit_range1 T.z_range (pa_cons' (pv_var 1) pa_nil')) (ptg_name (i := 4) c.nd (.inl rfl)) (pss_cons' (ps_own' c (i := 5) (pn_mul c (PN.pv (pn_lst (pa_cons' (pv_tup (pa_cons' pv_int (pa_cons' pv_int pa_nil'))) pa_nil'))) (pv_add c (pv_var 1) pv_int)) (.inl rfl))
    (pss_cons' (ps_for' c (pit_enum c T.z_enumerate (pa_cons' (pv_var 2) pa_nil')) (ptg_tup c (ptgs_cons (ptg_name (i := 6) c.nd (.inl rfl)) (ptgs_cons (ptg_name (i := 7) c.nd (.inl rfl)) ptgs_nil))) (pss_one' (ps_for' c (pit_enum c T.z_enumerate (pa_cons' (pv_var 0) pa_nil')) (ptg_tup c (ptgs_cons (ptg_name (i := 8) c.nd (.inl rfl)) (ptgs_cons (ptg_name (i := 9) c.nd (.inl rfl)) ptgs_nil))) (pss_one' (ps_if' (PBW.pb (pb_and (pb_cmp cm_gt (pv_ix c (pv_var 7) pv_int) pv_int) (pb_and1 (pb_cmp cm_le (pv_add c (pv_add c (pv_var 6) (pv_var 8)) pv_int) (pv_var 1))))) (pss_one' (ps_setIx' (i := 5) (pv_call c (dk__law_plus T) (by decide) (pa_cons' (pv_ixV c 5 (pv_add c (pv_add c (pv_var 6) (pv_var 8)) pv_int)) (pa_cons' (pv_call c (dk__law_times T) (by decide) (pa_cons' (pv_var 7) (pa_cons' (pv_var 9) pa_nil'))) pa_nil'))) (pv_add c (pv_add c (pv_var 6) (pv_var 8)) pv_int))) pss_nil')))))
    (pss_one' (ps_par2' c (i := 2) (j := 3) (psl_p (pv_frz 5 (.inl rfl))) (psl_p (PN.pv (pn_lc (own := [("one", 10), ("other", 11)]) c (pit_zip c T.z_zip (pa_cons' (pv_var 3) (pa_cons' (pv_frz 5 (.inl rfl)) pa_nil'))) (by rfl) (fun _ _ _ _ _ c' => (ptg_tup c' (ptgs_cons (ptg_name (i := 10) c'.nd (.inl rfl)) (ptgs_cons (ptg_name (i := 11) c'.nd (.inl rfl)) ptgs_nil)))) (fun _ _ _ _ _ c' => pts_nil') (fun _ _ _ _ _ c' => (pv_call c' (dk__law_plus T) (by decide) (pa_cons' (pv_var 10) (pa_cons' (pv_var 11) pa_nil')))) (.inl rfl) (by decide)))) (.inl rfl) (.inl rfl) (by decide))))))
    (pss_one' (ps_ret' (pv_tuple c T.z_tuple (pa_cons' (pv_var 3) pa_nil'))))))
theorem dk__law_right {F : Fx} {K : PySem.W.Frag} {mg : Str → Option Value} {P : Program} {w : World} {base : Heap} (T : Top F K mg base) : DOk F P w K mg base "_law_right" 15 2 (SpP F 2 g__law_right) := by
  obtain ⟨f, fd, Fu, gm⟩ := T.f__law_right
  refine ⟨⟨f, fd, _, fn_pure T.hF (body := b__law_right) Fu sc__law_right rfl (by decide) (fun cdv A outer s H E c => ?_) (fun ds _ => rfl), gm, Fu.kp, Fu.binds fun _ _ _ _ _ _ us hl => match us, hl with | [_, _], _ => rfl⟩⟩
  exact (pss_cons' (ps_par2' c (i := 2) (j := 3) (psl_p (pv_call c (dk__law_news T) (by decide) (pa_cons' (pv_var 0) (pa_cons' (pv_var 1) pa_nil')))) (psl_p (pv_len c T.z_len (pa_cons' (pv_var 0) pa_nil'))) (.inl rfl) (.inl rfl) (by decide))
    (pss_cons' (ps_set' c (i := 4) (pv_call c (dk__law_sum T) (by decide) (pa_cons' (PN.pv (pn_lc (own := [("k", 9), ("part", 10)]) c (pit_enum c T.z_enumerate (pa_cons' (pv_var 0) pa_nil')) (by rfl) (fun _ _ _ _ _ c' => (ptg_tup c' (ptgs_cons (ptg_name (i := 9) c'.nd (.inl rfl)) (ptgs_cons (ptg_name (i := 10) c'.nd (.inl rfl)) ptgs_nil)))) (fun _ _ _ _ _ c' => pts_nil') (fun _ _ _ _ _ c' => (pv_call c' (dk__law_times T) (by decide) (pa_cons' (pv_var 10) (pa_cons' (pv_tup (pa_cons' (pv_add c' (pv_var 9) pv_int) (pa_cons' pv_int pa_nil'))) pa_nil')))) (.inl rfl) (by decide))) pa_nil')) (.inl rfl))
    (pss_cons' (ps_if' (pb_not (pb_val (pv_call c (dk__law_like T 12) (by decide) (pa_cons' (PN.pv (pn_lst (pa_cons' (pv_call c (dk_new_chances T) (by decide) (pa_cons' (pv_var 0) (pa_cons' (pv_var 1) pa_nil'))) (pa_cons' (pv_call c (dk_count_new T) (by decide) (pa_cons' (pv_var 0) (pa_cons' (pv_var 1) pa_nil'))) (pa_cons' (pv_call c (dk_mean_life T) (by decide) (pa_cons' (pv_var 0) pa_nil')) pa_nil'))))) (pa_cons' (PN.pv (pn_lst (pa_cons' (pv_var 2) (pa_cons' (pv_call c (dk__law_sum T) (by decide) (pa_cons' (pv_slice c (pv_var 2) (po_some' pv_int) po_none') pa_nil')) (pa_cons' (pv_var 4) pa_nil'))))) pa_nil'))))) (pss_one' (ps_ret' pv_bl)) pss_nil')
    (pss_cons' (ps_par2' c (i := 5) (j := 6) (psl_n (pn_lst pa_nil')) (psl_p (pv_tup (pa_cons' pv_int (pa_cons' pv_int pa_nil')))) (.inl rfl) (.inl rfl) (by decide))
    (pss_cons' (ps_for' c (pit_range1 T.z_range (pa_cons' (pv_var 3) pa_nil')) (ptg_name (i := 7) c.nd (.inl rfl)) (pss_cons' (ps_append' (i := 5) (pv_ifExp (pb_cmp cm_le (pv_var 7) (pv_var 1)) (pv_call c (dk__law_times T) (by decide) (pa_cons' (pv_ix c (pv_var 2) (pv_sub (pv_var 1) (pv_var 7))) (pa_cons' (pv_var 6) pa_nil'))) (pv_tup (pa_cons' pv_int (pa_cons' pv_int pa_nil')))))
    (pss_one' (ps_set' c (i := 6) (pv_call c (dk__law_less T) (by decide) (pa_cons' (pv_var 6) (pa_cons' (pv_ix c (pv_var 0) (pv_var 7)) pa_nil'))) (.inl rfl)))))
    (pss_cons' (ps_if' (PBW.pb (pb_or (pb_not (pb_val (pv_call c (dk__law_like T 12) (by decide) (pa_cons' (pv_call c (dk_ages_at T) (by decide) (pa_cons' (pv_var 0) (pa_cons' (pv_var 1) pa_nil'))) (pa_cons' (pv_tuple c T.z_tuple (pa_cons' (pv_frz 5 (.inl rfl)) pa_nil')) pa_nil'))))) (pb_or1 (pb_cmp (cm_ne c) (pv_call c (dk__law_sum T) (by decide) (pa_cons' (pv_frz 5 (.inl rfl)) pa_nil')) (pv_tup (pa_cons' pv_int (pa_cons' pv_int pa_nil'))))))) (pss_one' (ps_ret' pv_bl)) pss_nil')
    (pss_cons' (ps_par2' c (i := 8) (j := 6) (psl_p (pv_call c (dk_long_ages T) (by decide) (pa_cons' (pv_var 0) pa_nil'))) (psl_p (pv_tup (pa_cons' pv_int (pa_cons' pv_int pa_nil')))) (.inl rfl) (.inl rfl) (by decide))
    (pss_cons' (ps_for' c (pit_range1 T.z_range (pa_cons' (pv_var 3) pa_nil')) (ptg_name (i := 7) c.nd (.inl rfl)) (pss_cons' (ps_if' (pb_cmp (cm_ne c) (pv_call c (dk__law_times T) (by decide) (pa_cons' (pv_ix c (pv_var 8) (pv_var 7)) (pa_cons' (pv_var 4) pa_nil'))) (pv_var 6)) (pss_one' (ps_ret' pv_bl)) pss_nil')
    (pss_one' (ps_set' c (i := 6) (pv_call c (dk__law_less T) (by decide) (pa_cons' (pv_var 6) (pa_cons' (pv_ix c (pv_var 0) (pv_var 7)) pa_nil'))) (.inl rfl)))))
    (pss_cons' (ps_if' (pb_not (pb_val (pv_call c (dk__law_like T 12) (by decide) (pa_cons' (pv_var 8) (pa_cons' (pv_tuple c T.z_tuple (pa_cons' (PN.pv (pn_lc (own := [("top", 11), ("bottom", 12)]) c (pit_seq c (pv_var 8)) (by rfl) (fun _ _ _ _ _ c' => (ptg_tup c' (ptgs_cons (ptg_name (i := 11) c'.nd (.inl rfl)) (ptgs_cons (ptg_name (i := 12) c'.nd (.inl rfl)) ptgs_nil)))) (fun _ _ _ _ _ c' => pts_nil') (fun _ _ _ _ _ c' => (pv_call c' (dk__law_low T) (by decide) (pa_cons' (pv_var 11) (pa_cons' (pv_var 12) pa_nil')))) (.inl rfl) (by decide))) pa_nil')) pa_nil'))))) (pss_one' (ps_ret' pv_bl)) pss_nil')
    (pss_one' (ps_ret' (pv_and (pv_cmp (cm_eq c) (pv_len c T.z_len (pa_cons' (pv_var 8) pa_nil')) (pv_var 3)) (pv_one (pv_cmp (cm_eq c) (pv_call c (dk__law_sum T) (by decide) (pa_cons' (pv_var 8) pa_nil')) (pv_tup (pa_cons' pv_int (pa_cons' pv_int pa_nil')))))))))))))))))
theorem dk__law_lives {F : Fx} {K : PySem.W.Frag} {mg : Str → Option Value} {P : Program} {w : World} {base : Heap} (T : Top F K mg base) : DOk F P w K mg base "_law_lives" 3 1 (SpC F 0 g__law_lives) := by
  obtain ⟨f, fd, Fu, gm⟩ := T.f__law_lives
  refine ⟨⟨f, fd, _, fn_cup T.hF (body := b__law_lives) Fu sc__law_lives rfl (by decide) (fun p cdv A outer s H E c => ?_) (fun cs ds _ => rfl), gm, Fu.kp, Fu.binds fun _ _ _ _ _ _ us hl => match us, hl with | [_], _ => rfl⟩⟩
  exact (pss_cons' (ps_set' c (i := 1) (pv_add c pv_int (pv_callC c 0 (dk__law_roll T) (by decide) (pa_cons' pv_int pa_nil'))) (.inr (by decide)))
    (pss_cons' (ps_set' c (i := 2) (pv_add c (PN.pv (pn_lc (own := [("part", 3)]) c (pit_range1 T.z_range (pa_cons' (pv_sub (pv_var 1) pv_int) pa_nil')) (by rfl) (fun _ _ _ _ _ c' => (ptg_name (i := 3) c'.nd (.inr (by decide)))) (fun _ _ _ _ _ c' => pts_nil') (fun _ _ _ _ _ c' => (pv_callC c' 0 (dk__law_some T) (by decide) (pa_cons' (PN.pv (pn_lst (pa_cons' pv_int (pa_cons' pv_int (pa_cons' (pv_callC c' 0 (dk__law_roll T) (by decide) (pa_cons' pv_int pa_nil')) pa_nil'))))) pa_nil'))) (.inr (by decide)) (by decide))) (PN.pv (pn_lst (pa_cons' (pv_add c pv_int (pv_callC c 0 (dk__law_roll T) (by decide) (pa_cons' pv_int pa_nil'))) pa_nil')))) (.inr (by decide)))
    (pss_one' (ps_ret' (pv_tuple c T.z_tuple (pa_cons' (PN.pv (pn_lc (own := [("part", 3)]) c (pit_seq c (pv_var 2)) (by rfl) (fun _ _ _ _ _ c' => (ptg_name (i := 3) c'.nd (.inr (by decide)))) (fun _ _ _ _ _ c' => pts_nil') (fun _ _ _ _ _ c' => (pv_call c' (dk__law_low T) (by decide) (pa_cons' (pv_var 3) (pa_cons' (pv_sum c' T.z_sum (pa_cons' (pv_var 2) pa_nil')) pa_nil')))) (.inr (by decide)) (by decide))) pa_nil'))))))
theorem dvs2 {F : Fx} {K : PySem.W.Frag} {mg : Str → Option Value} {P : Program} {w : World} {base : Heap} (T : Top F K mg base) : DVs F P w K mg base 6 2 gs2 := by
  intro kf g h
  unfold gs2 at h
  split at h
  · cases h; exact dv_of (dk_new_chances T) (by decide) T.v_new_chances
  · cases h; exact dv_of (dk_count_new T) (by decide) T.v_count_new
  · cases h; exact dv_of (dk_ages_at T) (by decide) T.v_ages_at
  · cases h
theorem dvs1 {F : Fx} {K : PySem.W.Frag} {mg : Str → Option Value} {P : Program} {w : World} {base : Heap} (T : Top F K mg base) : DVs F P w K mg base 5 1 gs1 := by
  intro kf g h
  unfold gs1 at h
  split at h
  · cases h; exact dv_of (dk_mean_life T) (by decide) T.v_mean_life
  · cases h; exact dv_of (dk_long_ages T) (by decide) T.v_long_ages
  · cases h
theorem dk__law_errors {F : Fx} {K : PySem.W.Frag} {mg : Str → Option Value} {P : Program} {w : World} {base : Heap} (T : Top F K mg base) : DOk F P w K mg base "_law_errors" 9 0 (SpP F 0 g__law_errors) :=
  dok_pureT T.hF (body := b__law_errors) T.f__law_errors sc__law_errors rfl (by decide) (fun Fu => Fu.binds fun _ _ _ _ _ _ us hl => match us, hl with | [], _ => rfl) (fun f cdv A outer s H E c tb => (pss_cons' (ps_set' c (i := 0) (PN.pv (pn_lst (pa_cons' pv_non (pa_cons' (pv_tup pa_nil') (pa_cons' (PN.pv (pn_lst (pa_cons' (pv_tup (pa_cons' pv_int (pa_cons' pv_int pa_nil'))) pa_nil'))) (pa_cons' (pv_tup (pa_cons' (pv_tup (pa_cons' pv_int (pa_cons' pv_int pa_nil'))) pa_nil')) (pa_cons' (pv_tup (pa_cons' (pv_tup (pa_cons' pv_int (pa_cons' pv_int pa_nil'))) (pa_cons' (pv_tup (pa_cons' pv_int (pa_cons' pv_int pa_nil'))) pa_nil'))) (pa_cons' (pv_tup (pa_cons' (pv_tup (pa_cons' pv_int (pa_cons' pv_int pa_nil'))) (pa_cons' (pv_tup (pa_cons' pv_int (pa_cons' pv_int pa_nil'))) pa_nil'))) (pa_cons' (pv_tup (pa_cons' (pv_tup (pa_cons' pv_int (pa_cons' pv_int pa_nil'))) (pa_cons' (pv_tup (pa_cons' pv_int (pa_cons' pv_int pa_nil'))) pa_nil'))) (pa_cons' (pv_add c (pv_mul c (pv_tup (pa_cons' (pv_tup (pa_cons' pv_int (pa_cons' pv_int pa_nil'))) pa_nil')) pv_int) (pv_tup (pa_cons' (pv_tup (pa_cons' pv_int (pa_cons' pv_int pa_nil'))) pa_nil'))) (pa_cons' pv_int pa_nil'))))))))))) (.inl rfl))
    (pss_cons' (ps_for' c (pit_seq c (pv_call0 c (dk__law_no_small T) (by decide))) (ptg_name (i := 1) c.nd (.inl rfl)) (pss_one' (ps_set' c (i := 0) (pv_add c (pv_var 0) (PN.pv (pn_lst (pa_cons' (pv_tup (pa_cons' (pv_var 1) (pa_cons' (pv_tup (pa_cons' pv_int (pa_cons' pv_int pa_nil'))) pa_nil'))) (pa_cons' (pv_tup (pa_cons' (pv_tup (pa_cons' pv_int (pa_cons' pv_int pa_nil'))) (pa_cons' (pv_var 1) pa_nil'))) pa_nil'))))) (.inl rfl))))
    (pss_cons' (ps_set' c (i := 2) (PN.pv (pn_lst pa_nil')) (.inl rfl))
    (pss_cons' (ps_for' c (pit_seq c (pv_var 0)) (ptg_name (i := 1) c.nd (.inl rfl)) (pss_cons' (ps_set' c (i := 2) (pv_add c (pv_var 2) (PN.pv (pn_lc (own := [("call", 3)]) c (pit_seq c (pv_tup (pa_cons' (pv_gl (glC_fn T.v_new_chances)) (pa_cons' (pv_gl (glC_fn T.v_count_new)) (pa_cons' (pv_gl (glC_fn T.v_ages_at)) pa_nil'))))) (by rfl) (fun _ _ _ _ _ c' => (ptg_name (i := 3) c'.nd (.inl rfl))) (fun _ _ _ _ _ c' => pts_nil') (fun _ _ _ _ _ c' => (pv_lawerrV c' 3 (ef__law_fails T) (dvs2 T) (by decide) (TabC.blk tb _ _ _ _ _ _) (fun _ _ _ _ _ _ _ c'l => (pa_cons' (pv_var 1) (pa_cons' pv_non pa_nil'))))) (.inl rfl) (by decide)))) (.inl rfl))
    (pss_one' (ps_set' c (i := 2) (pv_add c (pv_var 2) (PN.pv (pn_lc (own := [("call", 3)]) c (pit_seq c (pv_tup (pa_cons' (pv_gl (glC_fn T.v_mean_life)) (pa_cons' (pv_gl (glC_fn T.v_long_ages)) pa_nil')))) (by rfl) (fun _ _ _ _ _ c' => (ptg_name (i := 3) c'.nd (.inl rfl))) (fun _ _ _ _ _ c' => pts_nil') (fun _ _ _ _ _ c' => (pv_lawerrV c' 3 (ef__law_fails T) (dvs1 T) (by decide) (TabC.blk tb _ _ _ _ _ _) (fun _ _ _ _ _ _ _ c'l => (pa_cons' (pv_var 1) pa_nil')))) (.inl rfl) (by decide)))) (.inl rfl)))))
    (pss_cons' (ps_if' (pb_cmp (cm_ne c) (pv_var 2) (pv_mul c (PN.pv (pn_lst (pa_cons' pv_str pa_nil'))) (pv_mul c pv_int (pv_len c T.z_len (pa_cons' (pv_var 0) pa_nil'))))) (pss_one' (ps_ret' pv_bl)) pss_nil')
    (pss_cons' (ps_set' c (i := 2) (PN.pv (pn_lst pa_nil')) (.inl rfl))
    (pss_cons' (ps_for' c (pit_seq c (pv_tup (pa_cons' pv_non (pa_cons' (pv_neg pv_int) (pa_cons' pv_int (pa_cons' pv_bl (pa_cons' pv_str pa_nil'))))))) (ptg_name (i := 1) c.nd (.inl rfl)) (pss_one' (ps_set' c (i := 2) (pv_add c (pv_var 2) (PN.pv (pn_lc (own := [("call", 3)]) c (pit_seq c (pv_tup (pa_cons' (pv_gl (glC_fn T.v_new_chances)) (pa_cons' (pv_gl (glC_fn T.v_count_new)) (pa_cons' (pv_gl (glC_fn T.v_ages_at)) pa_nil'))))) (by rfl) (fun _ _ _ _ _ c' => (ptg_name (i := 3) c'.nd (.inl rfl))) (fun _ _ _ _ _ c' => pts_nil') (fun _ _ _ _ _ c' => (pv_lawerrV c' 3 (ef__law_fails T) (dvs2 T) (by decide) (TabC.blk tb _ _ _ _ _ _) (fun _ _ _ _ _ _ _ c'l => (pa_cons' (pv_tup (pa_cons' (pv_tup (pa_cons' pv_int (pa_cons' pv_int pa_nil'))) pa_nil')) (pa_cons' (pv_var 1) pa_nil'))))) (.inl rfl) (by decide)))) (.inl rfl))))
    (pss_one' (ps_ret' (pv_cmp (cm_eq c) (pv_var 2) (pv_mul c (PN.pv (pn_lst (pa_cons' pv_str pa_nil'))) pv_int)))))))))))) (fun ds _ => rfl)
theorem ok_law {F : Fx} {K : PySem.W.Frag} {mg : Str → Option Value} {P : Program} {w : World} {base : Heap} (T : Top F K mg base) (hlaw : ∀ ns : List Int, ns.length ≤ 63 → g_law [.scr ns] = .ok (.bl true)) {f : Addr} {fd : FuncData} (Fu : Fun K "law" "law" s_law f fd) : FnOk P w K mg base (L2N.CX P w) 16 f fd ["script"] (spT K F.T) :=
  fn_lawT T.hF (body := b_law) Fu rfl sc_law rfl (by decide) (fun A outer s H E c => (pss_cons' (ps_own' c (i := 1) (pn_call c (dk__law_cup T) (by decide) (pa_cons' (pv_var 0) pa_nil')) (.inl rfl))
    (pss_cons' (ps_for' c (pit_range1 T.z_range (pa_cons' pv_int pa_nil')) (ptg_name (i := 2) c.nd (.inl rfl)) (pss_one' (ps_if' (pb_not (pb_val (pv_call c (dk__law_right T) (by decide) (pa_cons' (pv_callC c 1 (dk__law_lives T) (by decide) pa_nil') (pa_cons' (pv_callC c 1 (dk__law_roll T) (by decide) (pa_cons' pv_int pa_nil')) pa_nil'))))) (pss_one' (ps_ret' pv_bl)) pss_nil')))
    (pss_cons' (ps_tg' (pv_tup (pa_cons' (pv_tup (pa_cons' (pv_tup (pa_cons' pv_int (pa_cons' pv_int pa_nil'))) (pa_cons' (pv_tup (pa_cons' pv_int (pa_cons' pv_int pa_nil'))) pa_nil'))) (pa_cons' (pv_tup (pa_cons' (pv_tup (pa_cons' pv_int (pa_cons' pv_int pa_nil'))) (pa_cons' (pv_tup (pa_cons' pv_int (pa_cons' pv_int pa_nil'))) pa_nil'))) (pa_cons' (pv_tup (pa_cons' (pv_tup (pa_cons' pv_int (pa_cons' pv_int pa_nil'))) (pa_cons' (pv_tup (pa_cons' pv_int (pa_cons' pv_int pa_nil'))) (pa_cons' (pv_tup (pa_cons' pv_int (pa_cons' pv_int pa_nil'))) pa_nil')))) pa_nil')))) (ptg_tup c (ptgs_cons (ptg_name (i := 3) c.nd (.inl rfl)) (ptgs_cons (ptg_name (i := 4) c.nd (.inl rfl)) (ptgs_cons (ptg_name (i := 5) c.nd (.inl rfl)) ptgs_nil)))))
    (pss_cons' (ps_set' c (i := 6) (PN.pv (pn_lst (pa_cons' (pv_call c (dk_new_chances T) (by decide) (pa_cons' (pv_var 3) (pa_cons' pv_int pa_nil'))) (pa_cons' (pv_call c (dk_count_new T) (by decide) (pa_cons' (pv_var 3) (pa_cons' pv_int pa_nil'))) (pa_cons' (pv_call c (dk_mean_life T) (by decide) (pa_cons' (pv_var 3) pa_nil')) (pa_cons' (pv_call c (dk_ages_at T) (by decide) (pa_cons' (pv_var 3) (pa_cons' pv_int pa_nil'))) (pa_cons' (pv_call c (dk_long_ages T) (by decide) (pa_cons' (pv_var 3) pa_nil')) (pa_cons' (pv_call c (dk_new_chances T) (by decide) (pa_cons' (pv_var 4) (pa_cons' pv_int pa_nil'))) pa_nil')))))))) (.inl rfl))
    (pss_cons' (ps_set' c (i := 6) (pv_add c (pv_var 6) (PN.pv (pn_lst (pa_cons' (pv_call c (dk_ages_at T) (by decide) (pa_cons' (pv_var 4) (pa_cons' pv_int pa_nil'))) (pa_cons' (pv_call c (dk_mean_life T) (by decide) (pa_cons' (pv_var 5) pa_nil')) (pa_cons' (pv_call c (dk_long_ages T) (by decide) (pa_cons' (pv_var 5) pa_nil')) (pa_cons' (pv_call c (dk_ages_at T) (by decide) (pa_cons' (pv_var 5) (pa_cons' pv_int pa_nil'))) pa_nil'))))))) (.inl rfl))
    (pss_cons' (ps_set' c (i := 7) (PN.pv (pn_lst (pa_cons' (pv_tup (pa_cons' (pv_tup (pa_cons' pv_int (pa_cons' pv_int pa_nil'))) (pa_cons' (pv_tup (pa_cons' pv_int (pa_cons' pv_int pa_nil'))) (pa_cons' (pv_tup (pa_cons' pv_int (pa_cons' pv_int pa_nil'))) (pa_cons' (pv_tup (pa_cons' pv_int (pa_cons' pv_int pa_nil'))) pa_nil'))))) (pa_cons' (pv_tup (pa_cons' pv_int (pa_cons' pv_int pa_nil'))) (pa_cons' (pv_tup (pa_cons' pv_int (pa_cons' pv_int pa_nil'))) pa_nil'))))) (.inl rfl))
    (pss_cons' (ps_set' c (i := 7) (pv_add c (pv_var 7) (PN.pv (pn_lst (pa_cons' (pv_tup (pa_cons' (pv_tup (pa_cons' pv_int (pa_cons' pv_int pa_nil'))) (pa_cons' (pv_tup (pa_cons' pv_int (pa_cons' pv_int pa_nil'))) pa_nil'))) (pa_cons' (pv_tup (pa_cons' (pv_tup (pa_cons' pv_int (pa_cons' pv_int pa_nil'))) (pa_cons' (pv_tup (pa_cons' pv_int (pa_cons' pv_int pa_nil'))) pa_nil'))) (pa_cons' (pv_tup (pa_cons' (pv_tup (pa_cons' pv_int (pa_cons' pv_int pa_nil'))) (pa_cons' (pv_tup (pa_cons' pv_int (pa_cons' pv_int pa_nil'))) (pa_cons' (pv_tup (pa_cons' pv_int (pa_cons' pv_int pa_nil'))) (pa_cons' (pv_tup (pa_cons' pv_int (pa_cons' pv_int pa_nil'))) (pa_cons' (pv_tup (pa_cons' pv_int (pa_cons' pv_int pa_nil'))) pa_nil')))))) pa_nil')))))) (.inl rfl))
    (pss_cons' (ps_if' (pb_not (pb_val (pv_call c (dk__law_like T 12) (by decide) (pa_cons' (pv_var 6) (pa_cons' (pv_add c (pv_var 7) (PN.pv (pn_lst (pa_cons' (pv_tup (pa_cons' (pv_tup (pa_cons' pv_int (pa_cons' pv_int pa_nil'))) (pa_cons' (pv_tup (pa_cons' pv_int (pa_cons' pv_int pa_nil'))) pa_nil'))) (pa_cons' (pv_tup (pa_cons' pv_int (pa_cons' pv_int pa_nil'))) (pa_cons' (pv_tup (pa_cons' (pv_tup (pa_cons' pv_int (pa_cons' pv_int pa_nil'))) (pa_cons' (pv_tup (pa_cons' pv_int (pa_cons' pv_int pa_nil'))) (pa_cons' (pv_tup (pa_cons' pv_int (pa_cons' pv_int pa_nil'))) pa_nil')))) (pa_cons' (pv_tup (pa_cons' (pv_tup (pa_cons' pv_int (pa_cons' pv_int pa_nil'))) (pa_cons' (pv_tup (pa_cons' pv_int (pa_cons' pv_int pa_nil'))) (pa_cons' (pv_tup (pa_cons' pv_int (pa_cons' pv_int pa_nil'))) pa_nil')))) pa_nil'))))))) pa_nil'))))) (pss_one' (ps_ret' pv_bl)) pss_nil')
    (pss_cons' (ps_set' c (i := 6) (PN.pv (pn_lst (pa_cons' (pv_call c (dk_new_chances T) (by decide) (pa_cons' (pv_var 5) (pa_cons' pv_int pa_nil'))) (pa_cons' (pv_call c (dk_ages_at T) (by decide) (pa_cons' (pv_var 5) (pa_cons' pv_int pa_nil'))) (pa_cons' (pv_call c (dk_count_new T) (by decide) (pa_cons' (pv_var 5) (pa_cons' pv_int pa_nil'))) pa_nil'))))) (.inl rfl))
    (pss_cons' (ps_if' (pb_not (pb_val (pv_call c (dk__law_like T 12) (by decide) (pa_cons' (pv_var 6) (pa_cons' (PN.pv (pn_lst (pa_cons' (pv_tup (pa_cons' (pv_tup (pa_cons' pv_int (pa_cons' pv_int pa_nil'))) (pa_cons' (pv_tup (pa_cons' pv_int (pa_cons' pv_int pa_nil'))) (pa_cons' (pv_tup (pa_cons' pv_int (pa_cons' pv_int pa_nil'))) (pa_cons' (pv_tup (pa_cons' pv_int (pa_cons' pv_int pa_nil'))) pa_nil'))))) (pa_cons' (pv_tup (pa_cons' (pv_tup (pa_cons' pv_int (pa_cons' pv_int pa_nil'))) (pa_cons' (pv_tup (pa_cons' pv_int (pa_cons' pv_int pa_nil'))) (pa_cons' (pv_tup (pa_cons' pv_int (pa_cons' pv_int pa_nil'))) pa_nil')))) (pa_cons' (pv_tup (pa_cons' pv_int (pa_cons' pv_int pa_nil'))) pa_nil'))))) pa_nil'))))) (pss_one' (ps_ret' pv_bl)) pss_nil')
    (pss_cons' (ps_set' c (i := 8) (PN.pv (pn_lst (pa_cons' (pv_tup (pa_cons' (pv_var 5) (pa_cons' pv_int pa_nil'))) (pa_cons' (pv_tup (pa_cons' (pv_var 3) (pa_cons' pv_int pa_nil'))) (pa_cons' (pv_tup (pa_cons' (pv_var 4) (pa_cons' pv_int pa_nil'))) (pa_cons' (pv_tup (pa_cons' (pv_tup (pa_cons' (pv_tup (pa_cons' pv_int (pa_cons' pv_int pa_nil'))) pa_nil')) (pa_cons' pv_int pa_nil'))) (pa_cons' (pv_tup (pa_cons' (pv_add c (pv_mul c (pv_tup (pa_cons' (pv_tup (pa_cons' pv_int (pa_cons' pv_int pa_nil'))) pa_nil')) pv_int) (pv_tup (pa_cons' (pv_tup (pa_cons' pv_int (pa_cons' pv_int pa_nil'))) pa_nil'))) (pa_cons' pv_int pa_nil'))) (pa_cons' (pv_tup (pa_cons' (pv_tup (pa_cons' (pv_tup (pa_cons' pv_int (pa_cons' pv_int pa_nil'))) (pa_cons' (pv_tup (pa_cons' pv_int (pa_cons' pv_int pa_nil'))) (pa_cons' (pv_tup (pa_cons' pv_int (pa_cons' pv_int pa_nil'))) pa_nil')))) (pa_cons' pv_int pa_nil'))) pa_nil')))))))) (.inl rfl))
    (pss_cons' (ps_set' c (i := 8) (pv_add c (pv_var 8) (PN.pv (pn_lst (pa_cons' (pv_tup (pa_cons' (pv_tup (pa_cons' (pv_tup (pa_cons' pv_int (pa_cons' pv_int pa_nil'))) (pa_cons' (pv_tup (pa_cons' pv_int (pa_cons' pv_int pa_nil'))) (pa_cons' (pv_tup (pa_cons' pv_int (pa_cons' pv_int pa_nil'))) pa_nil')))) (pa_cons' pv_int pa_nil'))) (pa_cons' (pv_tup (pa_cons' (pv_tup (pa_cons' (pv_tup (pa_cons' pv_int (pa_cons' pv_int pa_nil'))) (pa_cons' (pv_tup (pa_cons' pv_int (pa_cons' pv_int pa_nil'))) (pa_cons' (pv_tup (pa_cons' pv_int (pa_cons' pv_int pa_nil'))) pa_nil')))) (pa_cons' pv_int pa_nil'))) (pa_cons' (pv_tup (pa_cons' (pv_mul c (pv_tup (pa_cons' (pv_tup (pa_cons' pv_int (pa_cons' pv_int pa_nil'))) pa_nil')) pv_int) (pa_cons' pv_int pa_nil'))) pa_nil')))))) (.inl rfl))
    (pss_cons' (ps_for' c (pit_seq c (pv_add c (pv_var 8) (PN.pv (pn_lst (pa_cons' (pv_tup (pa_cons' (pv_tup (pa_cons' (pv_tup (pa_cons' pv_int (pa_cons' pv_int pa_nil'))) (pa_cons' (pv_tup (pa_cons' pv_int (pa_cons' pv_int pa_nil'))) pa_nil'))) (pa_cons' pv_int pa_nil'))) pa_nil'))))) (ptg_tup c (ptgs_cons (ptg_name (i := 9) c.nd (.inl rfl)) (ptgs_cons (ptg_name (i := 10) c.nd (.inl rfl)) ptgs_nil))) (pss_one' (ps_if' (pb_not (pb_val (pv_call c (dk__law_right T) (by decide) (pa_cons' (pv_var 9) (pa_cons' (pv_var 10) pa_nil'))))) (pss_one' (ps_ret' pv_bl)) pss_nil')))
    (pss_one' (ps_ret' (pv_call0 c (dk__law_errors T) (by decide)))))))))))))))))) hlaw
theorem tab_uq {ps : List (Addr × Str)} {p r : Addr × Str} (nd : (ps.map (·.1)).Nodup) (hp : p ∈ ps) (e : p.1 = r.1) (hr : r ∈ ps) : p.2 = r.2 := by
  induction ps with
  | nil => cases hp
  | cons x xs ih =>
    rw [List.map_cons, List.nodup_cons] at nd
    rcases List.mem_cons.mp hp with rfl | h1
    · rcases List.mem_cons.mp hr with rfl | h2
      · rfl
      · exact absurd (List.mem_map.mpr ⟨r, h2, e.symm⟩) nd.1
    · rcases List.mem_cons.mp hr with rfl | h2
      · exact absurd (List.mem_map.mpr ⟨p, h1, e⟩) nd.1
      · exact ih nd.2 h1 h2
theorem all_mk (hlaw : ∀ ns : List Int, ns.length ≤ 63 → g_law [.scr ns] = .ok (.bl true)) {w : World} {K : PySem.W.Frag} {h : Heap} {mg : Str → Option Value} {fa : Addr} (X : K.In h) (G : h.Ns mainGlobals mg) (hfa : mg "law" = some (.ref fa))
    {u0 : Addr} {od0 an0 : Option Addr} {sl0 : Array (Option Value)} {oc0 kV0 dc0 pm0 ct0 : Value} {cd0 : Value} (a0 : PySem.W.nsIn K mainGlobals "is_whole" = some (some (.ref u0))) (l0 : K.lookup u0 = some ⟨oc0, od0, .func (PySem.W.fnOf "is_whole" "is_whole" (defArgs s_is_whole) (defBody s_is_whole) (defScope s_is_whole) .none kV0 dc0 pm0 an0 cd0 ct0), sl0⟩) (c0 : PySem.W.codeIn K cd0 "is_whole" = true) (k0 : PySem.W.keepIn K (.ref u0) = true)
    {u1 : Addr} {od1 an1 : Option Addr} {sl1 : Array (Option Value)} {oc1 kV1 dc1 pm1 ct1 : Value} {cd1 : Value} (a1 : PySem.W.nsIn K mainGlobals "need_whole" = some (some (.ref u1))) (l1 : K.lookup u1 = some ⟨oc1, od1, .func (PySem.W.fnOf "need_whole" "need_whole" (defArgs s_need_whole) (defBody s_need_whole) (defScope s_need_whole) .none kV1 dc1 pm1 an1 cd1 ct1), sl1⟩) (c1 : PySem.W.codeIn K cd1 "need_whole" = true) (k1 : PySem.W.keepIn K (.ref u1) = true)
    {u2 : Addr} {od2 an2 : Option Addr} {sl2 : Array (Option Value)} {oc2 kV2 dc2 pm2 ct2 : Value} {cd2 : Value} (a2 : PySem.W.nsIn K mainGlobals "is_tuple_of" = some (some (.ref u2))) (l2 : K.lookup u2 = some ⟨oc2, od2, .func (PySem.W.fnOf "is_tuple_of" "is_tuple_of" (defArgs s_is_tuple_of) (defBody s_is_tuple_of) (defScope s_is_tuple_of) .none kV2 dc2 pm2 an2 cd2 ct2), sl2⟩) (c2 : PySem.W.codeIn K cd2 "is_tuple_of" = true) (k2 : PySem.W.keepIn K (.ref u2) = true)
    {u3 : Addr} {od3 an3 : Option Addr} {sl3 : Array (Option Value)} {oc3 kV3 dc3 pm3 ct3 : Value} {cd3 : Value} (a3 : PySem.W.nsIn K mainGlobals "is_portion" = some (some (.ref u3))) (l3 : K.lookup u3 = some ⟨oc3, od3, .func (PySem.W.fnOf "is_portion" "is_portion" (defArgs s_is_portion) (defBody s_is_portion) (defScope s_is_portion) .none kV3 dc3 pm3 an3 cd3 ct3), sl3⟩) (c3 : PySem.W.codeIn K cd3 "is_portion" = true) (k3 : PySem.W.keepIn K (.ref u3) = true)
    {u4 : Addr} {od4 an4 : Option Addr} {sl4 : Array (Option Value)} {oc4 kV4 dc4 pm4 ct4 : Value} {cd4 : Value} (a4 : PySem.W.nsIn K mainGlobals "lowest" = some (some (.ref u4))) (l4 : K.lookup u4 = some ⟨oc4, od4, .func (PySem.W.fnOf "lowest" "lowest" (defArgs s_lowest) (defBody s_lowest) (defScope s_lowest) .none kV4 dc4 pm4 an4 cd4 ct4), sl4⟩) (c4 : PySem.W.codeIn K cd4 "lowest" = true) (k4 : PySem.W.keepIn K (.ref u4) = true)
    {u5 : Addr} {od5 an5 : Option Addr} {sl5 : Array (Option Value)} {oc5 kV5 dc5 pm5 ct5 : Value} {cd5 : Value} (a5 : PySem.W.nsIn K mainGlobals "plus" = some (some (.ref u5))) (l5 : K.lookup u5 = some ⟨oc5, od5, .func (PySem.W.fnOf "plus" "plus" (defArgs s_plus) (defBody s_plus) (defScope s_plus) .none kV5 dc5 pm5 an5 cd5 ct5), sl5⟩) (c5 : PySem.W.codeIn K cd5 "plus" = true) (k5 : PySem.W.keepIn K (.ref u5) = true)
    {u6 : Addr} {od6 an6 : Option Addr} {sl6 : Array (Option Value)} {oc6 kV6 dc6 pm6 ct6 : Value} {cd6 : Value} (a6 : PySem.W.nsIn K mainGlobals "times" = some (some (.ref u6))) (l6 : K.lookup u6 = some ⟨oc6, od6, .func (PySem.W.fnOf "times" "times" (defArgs s_times) (defBody s_times) (defScope s_times) .none kV6 dc6 pm6 an6 cd6 ct6), sl6⟩) (c6 : PySem.W.codeIn K cd6 "times" = true) (k6 : PySem.W.keepIn K (.ref u6) = true)
    {u7 : Addr} {od7 an7 : Option Addr} {sl7 : Array (Option Value)} {oc7 kV7 dc7 pm7 ct7 : Value} {cd7 : Value} (a7 : PySem.W.nsIn K mainGlobals "is_small" = some (some (.ref u7))) (l7 : K.lookup u7 = some ⟨oc7, od7, .func (PySem.W.fnOf "is_small" "is_small" (defArgs s_is_small) (defBody s_is_small) (defScope s_is_small) .none kV7 dc7 pm7 an7 cd7 ct7), sl7⟩) (c7 : PySem.W.codeIn K cd7 "is_small" = true) (k7 : PySem.W.keepIn K (.ref u7) = true)
    {u8 : Addr} {od8 an8 : Option Addr} {sl8 : Array (Option Value)} {oc8 kV8 dc8 pm8 ct8 : Value} {cd8 : Value} (a8 : PySem.W.nsIn K mainGlobals "quotient" = some (some (.ref u8))) (l8 : K.lookup u8 = some ⟨oc8, od8, .func (PySem.W.fnOf "quotient" "quotient" (defArgs s_quotient) (defBody s_quotient) (defScope s_quotient) .none kV8 dc8 pm8 an8 cd8 ct8), sl8⟩) (c8 : PySem.W.codeIn K cd8 "quotient" = true) (k8 : PySem.W.keepIn K (.ref u8) = true)
    {u9 : Addr} {od9 an9 : Option Addr} {sl9 : Array (Option Value)} {oc9 kV9 dc9 pm9 ct9 : Value} {cd9 : Value} (a9 : PySem.W.nsIn K mainGlobals "total" = some (some (.ref u9))) (l9 : K.lookup u9 = some ⟨oc9, od9, .func (PySem.W.fnOf "total" "total" (defArgs s_total) (defBody s_total) (defScope s_total) .none kV9 dc9 pm9 an9 cd9 ct9), sl9⟩) (c9 : PySem.W.codeIn K cd9 "total" = true) (k9 : PySem.W.keepIn K (.ref u9) = true)
    {u10 : Addr} {od10 an10 : Option Addr} {sl10 : Array (Option Value)} {oc10 kV10 dc10 pm10 ct10 : Value} {cd10 : Value} (a10 : PySem.W.nsIn K mainGlobals "need_lives" = some (some (.ref u10))) (l10 : K.lookup u10 = some ⟨oc10, od10, .func (PySem.W.fnOf "need_lives" "need_lives" (defArgs s_need_lives) (defBody s_need_lives) (defScope s_need_lives) .none kV10 dc10 pm10 an10 cd10 ct10), sl10⟩) (c10 : PySem.W.codeIn K cd10 "need_lives" = true) (k10 : PySem.W.keepIn K (.ref u10) = true)
    {u11 : Addr} {od11 an11 : Option Addr} {sl11 : Array (Option Value)} {oc11 kV11 dc11 pm11 ct11 : Value} {cd11 : Value} (a11 : PySem.W.nsIn K mainGlobals "news_in" = some (some (.ref u11))) (l11 : K.lookup u11 = some ⟨oc11, od11, .func (PySem.W.fnOf "news_in" "news_in" (defArgs s_news_in) (defBody s_news_in) (defScope s_news_in) .none kV11 dc11 pm11 an11 cd11 ct11), sl11⟩) (c11 : PySem.W.codeIn K cd11 "news_in" = true) (k11 : PySem.W.keepIn K (.ref u11) = true)
    {u12 : Addr} {od12 an12 : Option Addr} {sl12 : Array (Option Value)} {oc12 kV12 dc12 pm12 ct12 : Value} {cd12 : Value} (a12 : PySem.W.nsIn K mainGlobals "longer_in" = some (some (.ref u12))) (l12 : K.lookup u12 = some ⟨oc12, od12, .func (PySem.W.fnOf "longer_in" "longer_in" (defArgs s_longer_in) (defBody s_longer_in) (defScope s_longer_in) .none kV12 dc12 pm12 an12 cd12 ct12), sl12⟩) (c12 : PySem.W.codeIn K cd12 "longer_in" = true) (k12 : PySem.W.keepIn K (.ref u12) = true)
    {u13 : Addr} {od13 an13 : Option Addr} {sl13 : Array (Option Value)} {oc13 kV13 dc13 pm13 ct13 : Value} {cd13 : Value} (a13 : PySem.W.nsIn K mainGlobals "mean_in" = some (some (.ref u13))) (l13 : K.lookup u13 = some ⟨oc13, od13, .func (PySem.W.fnOf "mean_in" "mean_in" (defArgs s_mean_in) (defBody s_mean_in) (defScope s_mean_in) .none kV13 dc13 pm13 an13 cd13 ct13), sl13⟩) (c13 : PySem.W.codeIn K cd13 "mean_in" = true) (k13 : PySem.W.keepIn K (.ref u13) = true)
    {u14 : Addr} {od14 an14 : Option Addr} {sl14 : Array (Option Value)} {oc14 kV14 dc14 pm14 ct14 : Value} {cd14 : Value} (a14 : PySem.W.nsIn K mainGlobals "need_both" = some (some (.ref u14))) (l14 : K.lookup u14 = some ⟨oc14, od14, .func (PySem.W.fnOf "need_both" "need_both" (defArgs s_need_both) (defBody s_need_both) (defScope s_need_both) .none kV14 dc14 pm14 an14 cd14 ct14), sl14⟩) (c14 : PySem.W.codeIn K cd14 "need_both" = true) (k14 : PySem.W.keepIn K (.ref u14) = true)
    {u15 : Addr} {od15 an15 : Option Addr} {sl15 : Array (Option Value)} {oc15 kV15 dc15 pm15 ct15 : Value} {cd15 : Value} (a15 : PySem.W.nsIn K mainGlobals "new_chances" = some (some (.ref u15))) (l15 : K.lookup u15 = some ⟨oc15, od15, .func (PySem.W.fnOf "new_chances" "new_chances" (defArgs s_new_chances) (defBody s_new_chances) (defScope s_new_chances) .none kV15 dc15 pm15 an15 cd15 ct15), sl15⟩) (c15 : PySem.W.codeIn K cd15 "new_chances" = true) (k15 : PySem.W.keepIn K (.ref u15) = true)
    {u16 : Addr} {od16 an16 : Option Addr} {sl16 : Array (Option Value)} {oc16 kV16 dc16 pm16 ct16 : Value} {cd16 : Value} (a16 : PySem.W.nsIn K mainGlobals "count_new" = some (some (.ref u16))) (l16 : K.lookup u16 = some ⟨oc16, od16, .func (PySem.W.fnOf "count_new" "count_new" (defArgs s_count_new) (defBody s_count_new) (defScope s_count_new) .none kV16 dc16 pm16 an16 cd16 ct16), sl16⟩) (c16 : PySem.W.codeIn K cd16 "count_new" = true) (k16 : PySem.W.keepIn K (.ref u16) = true)
    {u17 : Addr} {od17 an17 : Option Addr} {sl17 : Array (Option Value)} {oc17 kV17 dc17 pm17 ct17 : Value} {cd17 : Value} (a17 : PySem.W.nsIn K mainGlobals "mean_life" = some (some (.ref u17))) (l17 : K.lookup u17 = some ⟨oc17, od17, .func (PySem.W.fnOf "mean_life" "mean_life" (defArgs s_mean_life) (defBody s_mean_life) (defScope s_mean_life) .none kV17 dc17 pm17 an17 cd17 ct17), sl17⟩) (c17 : PySem.W.codeIn K cd17 "mean_life" = true) (k17 : PySem.W.keepIn K (.ref u17) = true)
    {u18 : Addr} {od18 an18 : Option Addr} {sl18 : Array (Option Value)} {oc18 kV18 dc18 pm18 ct18 : Value} {cd18 : Value} (a18 : PySem.W.nsIn K mainGlobals "ages_at" = some (some (.ref u18))) (l18 : K.lookup u18 = some ⟨oc18, od18, .func (PySem.W.fnOf "ages_at" "ages_at" (defArgs s_ages_at) (defBody s_ages_at) (defScope s_ages_at) .none kV18 dc18 pm18 an18 cd18 ct18), sl18⟩) (c18 : PySem.W.codeIn K cd18 "ages_at" = true) (k18 : PySem.W.keepIn K (.ref u18) = true)
    {u19 : Addr} {od19 an19 : Option Addr} {sl19 : Array (Option Value)} {oc19 kV19 dc19 pm19 ct19 : Value} {cd19 : Value} (a19 : PySem.W.nsIn K mainGlobals "long_ages" = some (some (.ref u19))) (l19 : K.lookup u19 = some ⟨oc19, od19, .func (PySem.W.fnOf "long_ages" "long_ages" (defArgs s_long_ages) (defBody s_long_ages) (defScope s_long_ages) .none kV19 dc19 pm19 an19 cd19 ct19), sl19⟩) (c19 : PySem.W.codeIn K cd19 "long_ages" = true) (k19 : PySem.W.keepIn K (.ref u19) = true)
    {u20 : Addr} {od20 an20 : Option Addr} {sl20 : Array (Option Value)} {oc20 kV20 dc20 pm20 ct20 : Value} {cd20 : Value} (a20 : PySem.W.nsIn K mainGlobals "_law_cup" = some (some (.ref u20))) (l20 : K.lookup u20 = some ⟨oc20, od20, .func (PySem.W.fnOf "_law_cup" "_law_cup" (defArgs s__law_cup) (defBody s__law_cup) (defScope s__law_cup) .none kV20 dc20 pm20 an20 cd20 ct20), sl20⟩) (c20 : PySem.W.codeIn K cd20 "_law_cup" = true) (k20 : PySem.W.keepIn K (.ref u20) = true)
    {u21 : Addr} {od21 an21 : Option Addr} {sl21 : Array (Option Value)} {oc21 kV21 dc21 pm21 ct21 : Value} {cd21 : Value} (a21 : PySem.W.nsIn K mainGlobals "_law_roll" = some (some (.ref u21))) (l21 : K.lookup u21 = some ⟨oc21, od21, .func (PySem.W.fnOf "_law_roll" "_law_roll" (defArgs s__law_roll) (defBody s__law_roll) (defScope s__law_roll) .none kV21 dc21 pm21 an21 cd21 ct21), sl21⟩) (c21 : PySem.W.codeIn K cd21 "_law_roll" = true) (k21 : PySem.W.keepIn K (.ref u21) = true)
    {u22 : Addr} {od22 an22 : Option Addr} {sl22 : Array (Option Value)} {oc22 kV22 dc22 pm22 ct22 : Value} {cd22 : Value} (a22 : PySem.W.nsIn K mainGlobals "_law_some" = some (some (.ref u22))) (l22 : K.lookup u22 = some ⟨oc22, od22, .func (PySem.W.fnOf "_law_some" "_law_some" (defArgs s__law_some) (defBody s__law_some) (defScope s__law_some) .none kV22 dc22 pm22 an22 cd22 ct22), sl22⟩) (c22 : PySem.W.codeIn K cd22 "_law_some" = true) (k22 : PySem.W.keepIn K (.ref u22) = true)
    {u23 : Addr} {od23 an23 : Option Addr} {sl23 : Array (Option Value)} {oc23 kV23 dc23 pm23 ct23 : Value} {cd23 : Value} (a23 : PySem.W.nsIn K mainGlobals "_law_sort" = some (some (.ref u23))) (l23 : K.lookup u23 = some ⟨oc23, od23, .func (PySem.W.fnOf "_law_sort" "_law_sort" (defArgs s__law_sort) (defBody s__law_sort) (defScope s__law_sort) .none kV23 dc23 pm23 an23 cd23 ct23), sl23⟩) (c23 : PySem.W.codeIn K cd23 "_law_sort" = true) (k23 : PySem.W.keepIn K (.ref u23) = true)
    {u24 : Addr} {od24 an24 : Option Addr} {sl24 : Array (Option Value)} {oc24 kV24 dc24 pm24 ct24 : Value} {cd24 : Value} (a24 : PySem.W.nsIn K mainGlobals "_law_like" = some (some (.ref u24))) (l24 : K.lookup u24 = some ⟨oc24, od24, .func (PySem.W.fnOf "_law_like" "_law_like" (defArgs s__law_like) (defBody s__law_like) (defScope s__law_like) .none kV24 dc24 pm24 an24 cd24 ct24), sl24⟩) (c24 : PySem.W.codeIn K cd24 "_law_like" = true) (k24 : PySem.W.keepIn K (.ref u24) = true)
    {u25 : Addr} {od25 an25 : Option Addr} {sl25 : Array (Option Value)} {oc25 kV25 dc25 pm25 ct25 : Value} {cd25 : Value} (a25 : PySem.W.nsIn K mainGlobals "_law_low" = some (some (.ref u25))) (l25 : K.lookup u25 = some ⟨oc25, od25, .func (PySem.W.fnOf "_law_low" "_law_low" (defArgs s__law_low) (defBody s__law_low) (defScope s__law_low) .none kV25 dc25 pm25 an25 cd25 ct25), sl25⟩) (c25 : PySem.W.codeIn K cd25 "_law_low" = true) (k25 : PySem.W.keepIn K (.ref u25) = true)
    {u26 : Addr} {od26 an26 : Option Addr} {sl26 : Array (Option Value)} {oc26 kV26 dc26 pm26 ct26 : Value} {cd26 : Value} (a26 : PySem.W.nsIn K mainGlobals "_law_plus" = some (some (.ref u26))) (l26 : K.lookup u26 = some ⟨oc26, od26, .func (PySem.W.fnOf "_law_plus" "_law_plus" (defArgs s__law_plus) (defBody s__law_plus) (defScope s__law_plus) .none kV26 dc26 pm26 an26 cd26 ct26), sl26⟩) (c26 : PySem.W.codeIn K cd26 "_law_plus" = true) (k26 : PySem.W.keepIn K (.ref u26) = true)
    {u27 : Addr} {od27 an27 : Option Addr} {sl27 : Array (Option Value)} {oc27 kV27 dc27 pm27 ct27 : Value} {cd27 : Value} (a27 : PySem.W.nsIn K mainGlobals "_law_times" = some (some (.ref u27))) (l27 : K.lookup u27 = some ⟨oc27, od27, .func (PySem.W.fnOf "_law_times" "_law_times" (defArgs s__law_times) (defBody s__law_times) (defScope s__law_times) .none kV27 dc27 pm27 an27 cd27 ct27), sl27⟩) (c27 : PySem.W.codeIn K cd27 "_law_times" = true) (k27 : PySem.W.keepIn K (.ref u27) = true)
    {u28 : Addr} {od28 an28 : Option Addr} {sl28 : Array (Option Value)} {oc28 kV28 dc28 pm28 ct28 : Value} {cd28 : Value} (a28 : PySem.W.nsIn K mainGlobals "_law_less" = some (some (.ref u28))) (l28 : K.lookup u28 = some ⟨oc28, od28, .func (PySem.W.fnOf "_law_less" "_law_less" (defArgs s__law_less) (defBody s__law_less) (defScope s__law_less) .none kV28 dc28 pm28 an28 cd28 ct28), sl28⟩) (c28 : PySem.W.codeIn K cd28 "_law_less" = true) (k28 : PySem.W.keepIn K (.ref u28) = true)
    {u29 : Addr} {od29 an29 : Option Addr} {sl29 : Array (Option Value)} {oc29 kV29 dc29 pm29 ct29 : Value} {cd29 : Value} (a29 : PySem.W.nsIn K mainGlobals "_law_sum" = some (some (.ref u29))) (l29 : K.lookup u29 = some ⟨oc29, od29, .func (PySem.W.fnOf "_law_sum" "_law_sum" (defArgs s__law_sum) (defBody s__law_sum) (defScope s__law_sum) .none kV29 dc29 pm29 an29 cd29 ct29), sl29⟩) (c29 : PySem.W.codeIn K cd29 "_law_sum" = true) (k29 : PySem.W.keepIn K (.ref u29) = true)
    {u30 : Addr} {od30 an30 : Option Addr} {sl30 : Array (Option Value)} {oc30 kV30 dc30 pm30 ct30 : Value} {cd30 : Value} (a30 : PySem.W.nsIn K mainGlobals "_law_no_small" = some (some (.ref u30))) (l30 : K.lookup u30 = some ⟨oc30, od30, .func (PySem.W.fnOf "_law_no_small" "_law_no_small" (defArgs s__law_no_small) (defBody s__law_no_small) (defScope s__law_no_small) .none kV30 dc30 pm30 an30 cd30 ct30), sl30⟩) (c30 : PySem.W.codeIn K cd30 "_law_no_small" = true) (k30 : PySem.W.keepIn K (.ref u30) = true)
    {u31 : Addr} {od31 an31 : Option Addr} {sl31 : Array (Option Value)} {oc31 kV31 dc31 pm31 ct31 : Value} {cd31 : Value} (a31 : PySem.W.nsIn K mainGlobals "_law_fails" = some (some (.ref u31))) (l31 : K.lookup u31 = some ⟨oc31, od31, .func (PySem.W.fnOf "_law_fails" "_law_fails" (defArgs s__law_fails) (defBody s__law_fails) (defScope s__law_fails) .none kV31 dc31 pm31 an31 cd31 ct31), sl31⟩) (c31 : PySem.W.codeIn K cd31 "_law_fails" = true) (k31 : PySem.W.keepIn K (.ref u31) = true)
    {u32 : Addr} {od32 an32 : Option Addr} {sl32 : Array (Option Value)} {oc32 kV32 dc32 pm32 ct32 : Value} {cd32 : Value} (a32 : PySem.W.nsIn K mainGlobals "_law_news" = some (some (.ref u32))) (l32 : K.lookup u32 = some ⟨oc32, od32, .func (PySem.W.fnOf "_law_news" "_law_news" (defArgs s__law_news) (defBody s__law_news) (defScope s__law_news) .none kV32 dc32 pm32 an32 cd32 ct32), sl32⟩) (c32 : PySem.W.codeIn K cd32 "_law_news" = true) (k32 : PySem.W.keepIn K (.ref u32) = true)
    {u33 : Addr} {od33 an33 : Option Addr} {sl33 : Array (Option Value)} {oc33 kV33 dc33 pm33 ct33 : Value} {cd33 : Value} (a33 : PySem.W.nsIn K mainGlobals "_law_right" = some (some (.ref u33))) (l33 : K.lookup u33 = some ⟨oc33, od33, .func (PySem.W.fnOf "_law_right" "_law_right" (defArgs s__law_right) (defBody s__law_right) (defScope s__law_right) .none kV33 dc33 pm33 an33 cd33 ct33), sl33⟩) (c33 : PySem.W.codeIn K cd33 "_law_right" = true) (k33 : PySem.W.keepIn K (.ref u33) = true)
    {u34 : Addr} {od34 an34 : Option Addr} {sl34 : Array (Option Value)} {oc34 kV34 dc34 pm34 ct34 : Value} {cd34 : Value} (a34 : PySem.W.nsIn K mainGlobals "_law_lives" = some (some (.ref u34))) (l34 : K.lookup u34 = some ⟨oc34, od34, .func (PySem.W.fnOf "_law_lives" "_law_lives" (defArgs s__law_lives) (defBody s__law_lives) (defScope s__law_lives) .none kV34 dc34 pm34 an34 cd34 ct34), sl34⟩) (c34 : PySem.W.codeIn K cd34 "_law_lives" = true) (k34 : PySem.W.keepIn K (.ref u34) = true)
    {u35 : Addr} {od35 an35 : Option Addr} {sl35 : Array (Option Value)} {oc35 kV35 dc35 pm35 ct35 : Value} {cc35 P35 : Addr} (a35 : PySem.W.nsIn K mainGlobals "_law_errors" = some (some (.ref u35))) (l35 : K.lookup u35 = some ⟨oc35, od35, .func (PySem.W.fnOf "_law_errors" "_law_errors" (defArgs s__law_errors) (defBody s__law_errors) (defScope s__law_errors) .none kV35 dc35 pm35 an35 (.ref cc35) ct35), sl35⟩) (c35 : PySem.W.codeIn K (.ref cc35) "_law_errors" = true) (k35 : PySem.W.keepIn K (.ref u35) = true) {oq35 : Value} {dq35 : Option Addr} {sq35 : Array (Option Value)} {vq35 : Array Value} (tb35 : K.lookup cc35 = some ⟨oq35, dq35, .fields vq35, sq35⟩) (tc35 : vq35[11]? = some (.ref P35)) (ch35 : PySem.W.codeHdIn K cc35 P35 = true) (nl35 : K.lookup P35 = none) (hp35 : h.get? P35 = some (PySem.W.tabObj #[]))
    {u36 : Addr} {od36 an36 : Option Addr} {sl36 : Array (Option Value)} {oc36 kV36 dc36 pm36 ct36 : Value} {cd36 : Value} (a36 : PySem.W.nsIn K mainGlobals "law" = some (some (.ref u36))) (l36 : K.lookup u36 = some ⟨oc36, od36, .func (PySem.W.fnOf "law" "law" (defArgs s_law) (defBody s_law) (defScope s_law) .none kV36 dc36 pm36 an36 cd36 ct36), sl36⟩) (c36 : PySem.W.codeIn K cd36 "law" = true) (k36 : PySem.W.keepIn K (.ref u36) = true)
    (nd : ([P35] : List Addr).Nodup)
    (z_isinstance : PySem.W.nsIn K mainGlobals "isinstance" = some none)
    (z_int : PySem.W.nsIn K mainGlobals "int" = some none)
    (z_bool : PySem.W.nsIn K mainGlobals "bool" = some none)
    (z_tuple : PySem.W.nsIn K mainGlobals "tuple" = some none)
    (z_len : PySem.W.nsIn K mainGlobals "len" = some none)
    (z_all : PySem.W.nsIn K mainGlobals "all" = some none)
    (z_range : PySem.W.nsIn K mainGlobals "range" = some none)
    (z_enumerate : PySem.W.nsIn K mainGlobals "enumerate" = some none)
    (z_abs : PySem.W.nsIn K mainGlobals "abs" = some none)
    (z_list : PySem.W.nsIn K mainGlobals "list" = some none)
    (z_str : PySem.W.nsIn K mainGlobals "str" = some none)
    (z_zip : PySem.W.nsIn K mainGlobals "zip" = some none)
    (z_sum : PySem.W.nsIn K mainGlobals "sum" = some none)
    (m_gcd : PySem.W.nsIn K mainGlobals "gcd" = some (some (.builtin "math.gcd")))
    {t_GREAT : Tok} (c_GREAT : PySem.W.nsIn K mainGlobals "GREAT" = some (some (.int 1000000000000000000000000000000000000000000000000000000000000 t_GREAT)))
    {t_SMALL : Tok} (c_SMALL : PySem.W.nsIn K mainGlobals "SMALL" = some (some (.int 100 t_SMALL)))
    {t_LONG : Tok} (c_LONG : PySem.W.nsIn K mainGlobals "LONG" = some (some (.int 12 t_LONG)))
    {t_STEPS : Tok} (c_STEPS : PySem.W.nsIn K mainGlobals "STEPS" = some (some (.int 30 t_STEPS)))
    {C0 : Addr} (ea0 : PySem.W.nsIn K mainGlobals "InvalidNumber" = some (some (.ref C0))) (eb0 : PySem.W.excIn K C0 [.type "ValueError", .type "Exception", .type "BaseException", .type "object"] "ValueError.__new__" = true) (ec0 : PySem.W.keepIn K (.ref C0) = true) (ed0 : PySem.W.subIn K (.ref C0) (.type "BaseException") = some true) (ee0 : PySem.W.typeIn K (.ref C0) = some (.type "type"))
    {C1 : Addr} (ea1 : PySem.W.nsIn K mainGlobals "InvalidRow" = some (some (.ref C1))) (eb1 : PySem.W.excIn K C1 [.type "ValueError", .type "Exception", .type "BaseException", .type "object"] "ValueError.__new__" = true) (ec1 : PySem.W.keepIn K (.ref C1) = true) (ed1 : PySem.W.subIn K (.ref C1) (.type "BaseException") = some true) (ee1 : PySem.W.typeIn K (.ref C1) = some (.type "type"))
    {CR : Addr} (ra : PySem.W.nsIn K mainGlobals "RoadError" = some (some (.ref CR)))
    (xg0 : PySem.W.findIn K (.ref C0) "__getattribute__" = some (some (.builtin "BaseException.__getattribute__")))
    (xk0 : PySem.W.findIn K (.ref C0) "__getattr__" = some none)
    (xs0 : PySem.W.subIn K (.ref C0) (.type "BaseException") = some true)
    (xd0 : PySem.W.hasDictIn K C0 = true)
    (xa0 : PySem.W.findIn K (.ref C0) "__class__" = some (some (.builtin "object.__class__")))
    (xm0 : PySem.W.mroIn K C0 (.type "object") = some true)
    (xg1 : PySem.W.findIn K (.ref C1) "__getattribute__" = some (some (.builtin "BaseException.__getattribute__")))
    (xk1 : PySem.W.findIn K (.ref C1) "__getattr__" = some none)
    (xs1 : PySem.W.subIn K (.ref C1) (.type "BaseException") = some true)
    (xd1 : PySem.W.hasDictIn K C1 = true)
    (xa1 : PySem.W.findIn K (.ref C1) "__class__" = some (some (.builtin "object.__class__")))
    (xm1 : PySem.W.mroIn K C1 (.type "object") = some true)
    (xn : PySem.W.specialIn K (.builtin "object.__class__") "__get__" = some (some (.builtin "getset_descriptor.__get__"))) (xt : PySem.W.takesIn K (.builtin "object.__class__") = some true)
    (q0_0 : PySem.W.kitOne K (.ref C0) (.ref C0) = some (isT 0 0))
    (q0_1 : PySem.W.kitOne K (.ref C0) (.ref C1) = some (isT 0 1))
    (w0 : PySem.W.exmOne K (.ref C0) (.ref CR) = some true)
    (q1_0 : PySem.W.kitOne K (.ref C1) (.ref C0) = some (isT 1 0))
    (q1_1 : PySem.W.kitOne K (.ref C1) (.ref C1) = some (isT 1 1))
    (w1 : PySem.W.exmOne K (.ref C1) (.ref CR) = some true) :
    LamX.LawAtS PySem.Challenge.rw_roadsfail_k64_whole_new_parts w K (L2N.CX PySem.Challenge.rw_roadsfail_k64_whole_new_parts.prog w) 16 63 "script" mg fa h := by
  have e := hfa.symm.trans (PySem.W.mg_of X G a36)
  cases e
  refine ⟨PySem.W.fnOf "law" "law" (defArgs s_law) (defBody s_law) (defScope s_law) .none kV36 dc36 pm36 an36 cd36 ct36, ([(cc35, P35)] : List (Addr × Addr)), spT K [(P35, ("_law_errors" : Str) ++ ".<locals>." ++ "<lambda>")], (fun p hp => by
    simp only [List.mem_cons, List.not_mem_nil, or_false] at hp
    subst hp
    exact hp35), (fun p hp => by
    simp only [List.mem_cons, List.not_mem_nil, or_false] at hp
    subst hp
    exact nl35), (fun p hp => by
    simp only [List.mem_cons, List.not_mem_nil, or_false] at hp
    subst hp
    exact PySem.W.codeHd_of_K X ch35), fun s v => .of_eq rfl, fun H a ns h1 h2 h3 h4 => ⟨a, ns, rfl, h4, h1, (fun p hp => by
    simp only [List.mem_cons, List.not_mem_nil, or_false] at hp
    subst hp
    exact h3 (cc35, P35) (by simp)), fun _ => rfl⟩, fun base hK hG hTB => ?_⟩
  have T : Top ⟨K, fun i => ([u15, u16, u18, u17, u19] : List Addr).getD i fa, fun i => ([C0, C1, CR] : List Addr).getD i fa, [(P35, ("_law_errors" : Str) ++ ".<locals>." ++ "<lambda>")]⟩ K mg base := ⟨rfl, fnC_mk X G a0 l0 c0 k0, fnC_mk X G a1 l1 c1 k1, fnC_mk X G a2 l2 c2 k2, fnC_mk X G a3 l3 c3 k3, fnC_mk X G a4 l4 c4 k4, fnC_mk X G a5 l5 c5 k5, fnC_mk X G a6 l6 c6 k6, fnC_mk X G a7 l7 c7 k7, fnC_mk X G a8 l8 c8 k8, fnC_mk X G a9 l9 c9 k9, fnC_mk X G a10 l10 c10 k10, fnC_mk X G a11 l11 c11 k11, fnC_mk X G a12 l12 c12 k12, fnC_mk X G a13 l13 c13 k13, fnC_mk X G a14 l14 c14 k14, fnC_mk X G a15 l15 c15 k15, fnC_mk X G a16 l16 c16 k16, fnC_mk X G a17 l17 c17 k17, fnC_mk X G a18 l18 c18 k18, fnC_mk X G a19 l19 c19 k19, fnC_mk X G a20 l20 c20 k20, fnC_mk X G a21 l21 c21 k21, fnC_mk X G a22 l22 c22 k22, fnC_mk X G a23 l23 c23 k23, fnC_mk X G a24 l24 c24 k24, fnC_mk X G a25 l25 c25 k25, fnC_mk X G a26 l26 c26 k26, fnC_mk X G a27 l27 c27 k27, fnC_mk X G a28 l28 c28 k28, fnC_mk X G a29 l29 c29 k29, fnC_mk X G a30 l30 c30 k30, fnC_mk X G a31 l31 c31 k31, fnC_mk X G a32 l32 c32 k32, fnC_mk X G a33 l33 c33 k33, fnC_mk X G a34 l34 c34 k34, ⟨u35, _, cc35, P35, fun_mk l35 c35 k35, PySem.W.mg_of X G a35, rfl, hTB (cc35, P35) (List.Mem.head _), (List.Mem.head _), (fun p hp e => tab_uq (ps := ([(P35, ("_law_errors" : Str) ++ ".<locals>." ++ "<lambda>")] : List (Addr × Str))) nd hp e (List.Mem.head _))⟩, PySem.W.mg_none_of X G z_isinstance, PySem.W.mg_none_of X G z_int, PySem.W.mg_none_of X G z_bool, PySem.W.mg_none_of X G z_tuple, PySem.W.mg_none_of X G z_len, PySem.W.mg_none_of X G z_all, PySem.W.mg_none_of X G z_range, PySem.W.mg_none_of X G z_enumerate, PySem.W.mg_none_of X G z_abs, PySem.W.mg_none_of X G z_list, PySem.W.mg_none_of X G z_str, PySem.W.mg_none_of X G z_zip, PySem.W.mg_none_of X G z_sum, PySem.W.mg_of X G m_gcd, int_mk X G c_GREAT, int_mk X G c_SMALL, int_mk X G c_LONG, int_mk X G c_STEPS, ⟨PySem.W.mg_of X G ea0, eb0, ec0, ed0, ee0⟩, ⟨PySem.W.mg_of X G ea1, eb1, ec1, ed1, ee1⟩, PySem.W.mg_of X G a15, PySem.W.mg_of X G a16, PySem.W.mg_of X G a18, PySem.W.mg_of X G a17, PySem.W.mg_of X G a19, PySem.W.mg_of X G ra, (fun c h => match c, h with | 0, _ => ⟨xg0, xk0, xs0, xd0, xa0, xn, xt, xm0⟩ | 1, _ => ⟨xg1, xk1, xs1, xd1, xa1, xn, xt, xm1⟩ | c + 2, h => absurd h (by simp [okE, Nat.blt])), (fun c i h hi => match c, i, h, hi with | 0, 0, _, _ => q0_0 | 0, 1, _, _ => q0_1 | 1, 0, _, _ => q1_0 | 1, 1, _, _ => q1_1 | c + 2, i, h, hi => absurd h (by simp [okE, Nat.blt]) | c, i + 2, h, hi => absurd hi (by omega)), (fun c h => match c, h with | 0, _ => w0 | 1, _ => w1 | c + 2, h => absurd h (by simp [okE, Nat.blt]))⟩
  exact ok_law T hlaw (fun_mk (st := s_law) l36 c36 k36)
end W64

namespace W64
open PySem L2 PL
theorem low_ret {t b : Int} {x : Nat} {j : Slot} (hb : 0 < b) (hx : divOk (x : Int) = true) : B1__law_low [.pu (.int t), .pu (.int b), .pu (.int (x : Int)), .pu (.int ((0 : Nat) : Int)), j] = .rt (.tup [.int (t.fdiv x), .int (b.fdiv x)]) [.pu (.int t), .pu (.int b), .pu (.int (x : Int)), .pu (.int ((0 : Nat) : Int)), j] := by
  simp [dEq_int, hb, dDiv, hx]
theorem low_step {t b : Int} {x y : Nat} {j : Slot} (hy : y ≠ 0) : B1__law_low [.pu (.int t), .pu (.int b), .pu (.int (x : Int)), .pu (.int (y : Int)), j] = .nx [.pu (.int t), .pu (.int b), .pu (.int (y : Int)), .pu (.int ((x % y : Nat) : Int)), j] := by
  have e : (x : Int).fmod (y : Int) = ((x % y : Nat) : Int) := by rw [Int.fmod_eq_emod_of_nonneg _ (by omega)]; simp
  have hy' : (y : Int) ≠ 0 := by omega
  simp [dEq_int, hy, hy', dMod, fInt, e]
theorem low_loop {t b : Int} {g : Nat} (hb : 0 < b) (hg : divOk (g : Int) = true) : ∀ (k x y : Nat) (xs : List D) (j : Slot), y < 2 ^ k → Nat.gcd x y = g → 2 * k + 1 ≤ xs.length → ∃ ε', forF T1__law_low B1__law_low xs [.pu (.int t), .pu (.int b), .pu (.int (x : Int)), .pu (.int (y : Int)), j] = .rt (.tup [.int (t.fdiv g), .int (b.fdiv g)]) ε' := by
  have stop : ∀ (x : Nat) (xs : List D) (j : Slot), Nat.gcd x 0 = g → 1 ≤ xs.length → ∃ ε', forF T1__law_low B1__law_low xs [.pu (.int t), .pu (.int b), .pu (.int (x : Int)), .pu (.int ((0 : Nat) : Int)), j] = .rt (.tup [.int (t.fdiv g), .int (b.fdiv g)]) ε' := by
    intro x xs j e hl
    cases xs with
    | nil => simp at hl
    | cons d xs =>
      rw [Nat.gcd_zero_right] at e
      subst e
      have t1 : T1__law_low d [.pu (.int t), .pu (.int b), .pu (.int (x : Int)), .pu (.int ((0 : Nat) : Int)), j] = .ok [.pu (.int t), .pu (.int b), .pu (.int (x : Int)), .pu (.int ((0 : Nat) : Int)), .pu d] := by simp
      refine ⟨[.pu (.int t), .pu (.int b), .pu (.int (x : Int)), .pu (.int ((0 : Nat) : Int)), .pu d], ?_⟩
      simp only [forF, t1, Res.ne, low_ret hb hg]
  intro k
  induction k with
  | zero =>
    intro x y xs j hy e hl
    have : y = 0 := by simpa using hy
    subst this
    exact stop x xs j e (by omega)
  | succ k ih =>
    intro x y xs j hy e hl
    by_cases h0 : y = 0
    · subst h0
      exact stop x xs j e (by omega)
    · cases xs with
      | nil => simp at hl
      | cons d xs =>
        have t1 : T1__law_low d [.pu (.int t), .pu (.int b), .pu (.int (x : Int)), .pu (.int (y : Int)), j] = .ok [.pu (.int t), .pu (.int b), .pu (.int (x : Int)), .pu (.int (y : Int)), .pu d] := by simp
        simp only [forF, t1, Res.ne, low_step h0]
        have e2 : Nat.gcd y (x % y) = g := by rw [← e, Nat.gcd_comm y, ← Nat.gcd_rec, Nat.gcd_comm]
        simp only [List.length_cons] at hl
        by_cases h1 : x % y = 0
        · rw [h1] at e2 ⊢
          exact stop y xs (.pu d) e2 (by omega)
        · cases xs with
          | nil => simp at hl
          | cons d2 xs =>
            have t2 : T1__law_low d2 [.pu (.int t), .pu (.int b), .pu (.int (y : Int)), .pu (.int ((x % y : Nat) : Int)), .pu d] = .ok [.pu (.int t), .pu (.int b), .pu (.int (y : Int)), .pu (.int ((x % y : Nat) : Int)), .pu d2] := by simp
            simp only [forF, t2, Res.ne, low_step h1]
            have e3 : Nat.gcd (x % y) (y % (x % y)) = g := by rw [← e2, Nat.gcd_comm (x % y), ← Nat.gcd_rec, Nat.gcd_comm]
            simp only [List.length_cons] at hl
            refine ih (x % y) (y % (x % y)) xs (.pu d2) ?_ e3 (by omega)
            have l1 : x % y < y := Nat.mod_lt _ (by omega)
            have l2 : y % (x % y) < x % y := Nat.mod_lt _ (by omega)
            have l3 := Nat.div_add_mod y (x % y)
            have l4 : 1 ≤ y / (x % y) := Nat.div_pos (by omega) (by omega)
            have l5 : x % y ≤ (x % y) * (y / (x % y)) := Nat.le_mul_of_pos_right _ (by omega)
            rw [Nat.pow_succ] at hy
            omega
theorem law_low_ok {t b : Int} (hb : 0 < b) (hs : b < 2 ^ 900) : g__law_low [.int t, .int b] = .ok (.tup [.int (t.fdiv (Nat.gcd t.natAbs b.natAbs : Nat)), .int (b.fdiv (Nat.gcd t.natAbs b.natAbs : Nat))]) := by
  have hb2 : b.natAbs < 2 ^ 900 := by omega
  have g0 : 0 < Nat.gcd t.natAbs b.natAbs := Nat.gcd_pos_of_pos_right _ (by omega)
  have hg : divOk ((Nat.gcd t.natAbs b.natAbs : Nat) : Int) = true := by
    have h3 : Nat.gcd t.natAbs b.natAbs ≤ b.natAbs := Nat.gcd_le_right _ (by omega)
    simp only [divOk, Int.natAbs_natCast, decide_eq_true_eq]
    refine ⟨by omega, ?_⟩
    rw [Nat.log2_lt (by omega)]
    exact Nat.lt_of_le_of_lt h3 (Nat.lt_of_lt_of_le hb2 (Nat.pow_le_pow_right (by decide) (by decide)))
  have ea : ∀ x : Int, (if x < 0 then -x else x) = (x.natAbs : Int) := fun x => by split <;> omega
  obtain ⟨ε', e⟩ := low_loop (t := t) hb hg 900 t.natAbs b.natAbs ((List.range 2000).map fun i : Nat => D.int (i : Int)) .em hb2 rfl (by simp)
  have s1 : S1__law_low [.pu (.int t), .pu (.int b), .pu (.int (t.natAbs : Int)), .pu (.int (b.natAbs : Int)), .em] = .ok ((List.range 2000).map fun i : Nat => D.int (i : Int), [.pu (.int t), .pu (.int b), .pu (.int (t.natAbs : Int)), .pu (.int (b.natAbs : Int)), .em]) :=
    iCall_ok (g := fRange) (fs := aCons (eC (.int 2000)) aNil) (ds := [.int 2000]) (by simp) (fRange1 (k := 2000) (by rfl) (by omega))
  show outRes (sSeq _ _ (startE 5 [.int t, .int b])) = _
  refine out_seq (ε1 := [.pu (.int t), .pu (.int b), .pu (.int (t.natAbs : Int)), .pu (.int (b.natAbs : Int)), .em]) (by simp [fAbs, ea]) ?_
  simp only [sSeq, sFor, s1, Res.out, e, Out.andThen, outRes]
theorem low_ok {t b : Int} (hb : 0 < b) (hs : b.natAbs < 2 ^ 840) : g__law_low [.int t, .int b] = .ok (rd ((t : Rat) / (b : Rat))) := by
  have p : (2 : Nat) ^ 840 ≤ 2 ^ 900 := Nat.pow_le_pow_right (by decide) (by decide)
  rw [law_low_ok hb (by omega), (lowP (t := t) hb).1, (lowP (t := t) hb).2]
  rfl
theorem lowest_ok {t b : Int} (hb : 0 < b) (hs : b.natAbs < 2 ^ 840) : g_lowest [.int t, .int b] = .ok (rd ((t : Rat) / (b : Rat))) := by
  have g0 : 0 < Nat.gcd t.natAbs b.natAbs := Nat.gcd_pos_of_pos_right _ (by omega)
  have hg : divOk ((Nat.gcd t.natAbs b.natAbs : Nat) : Int) = true := by
    have h3 : Nat.gcd t.natAbs b.natAbs ≤ b.natAbs := Nat.gcd_le_right _ (by omega)
    simp only [divOk, Int.natAbs_natCast, decide_eq_true_eq]
    refine ⟨by omega, ?_⟩
    rw [Nat.log2_lt (by omega)]
    exact Nat.lt_of_le_of_lt h3 (Nat.lt_of_lt_of_le hs (Nat.pow_le_pow_right (by decide) (by decide)))
  have e1 := (lowP (t := t) hb).1
  have e2 := (lowP (t := t) hb).2
  simp [g_lowest, b_lowest, outRes, dDiv, hg, hb, rd, e1, e2]
theorem denp (a b : Rat) : 0 < (a.den : Int) * (b.den : Int) := Int.mul_pos (by have := a.den_pos; omega) (by have := b.den_pos; omega)
theorem den840 {a b : Rat} (x : Sz a) (y : Sz b) : ((a.den : Int) * (b.den : Int)).natAbs < 2 ^ 840 := by
  rw [Int.natAbs_mul, Int.natAbs_natCast, Int.natAbs_natCast]
  exact mul420 x.d y.d
theorem m_nn {a b : Rat} (x : Sz a) (y : Sz b) : dMul (.int a.num) (.int b.num) = .ok (.int (a.num * b.num)) := by simp [dMul, mulOk420 x.n y.n]
theorem m_nd {a b : Rat} (x : Sz a) (y : Sz b) : dMul (.int a.num) (.int (b.den : Int)) = .ok (.int (a.num * (b.den : Int))) := by
  have h := y.d
  simp [dMul, mulOk420 x.n (show ((b.den : Nat) : Int).natAbs < 2 ^ 420 from h)]
theorem m_dd {a b : Rat} (x : Sz a) (y : Sz b) : dMul (.int (a.den : Int)) (.int (b.den : Int)) = .ok (.int ((a.den : Int) * (b.den : Int))) := by
  simp [dMul, mulOk420 (show ((a.den : Nat) : Int).natAbs < 2 ^ 420 from x.d) (show ((b.den : Nat) : Int).natAbs < 2 ^ 420 from y.d)]
theorem m_dn {a b : Rat} (x : Sz a) (y : Sz b) : dMul (.int (a.den : Int)) (.int b.num) = .ok (.int ((a.den : Int) * b.num)) := by
  simp [dMul, mulOk420 (show ((a.den : Nat) : Int).natAbs < 2 ^ 420 from x.d) y.n]
theorem times_ok {a b : Rat} (x : Sz a) (y : Sz b) : g_times [rd a, rd b] = .ok (rd (a * b)) := by
  have e := lowest_ok (t := a.num * b.num) (denp a b) (den840 x y)
  rw [mul_as] at e
  have m1 := m_nn x y
  have m2 := m_dd x y
  unfold rd at e ⊢
  simp [g_times, b_times, outRes, m1, m2, e]
theorem plus_ok {a b : Rat} (x : Sz a) (y : Sz b) : g_plus [rd a, rd b] = .ok (rd (a + b)) := by
  have e := lowest_ok (t := a.num * (b.den : Int) + b.num * (a.den : Int)) (denp a b) (den840 x y)
  rw [add_as] at e
  have m1 := m_nd x y
  have m2 := m_dd x y
  have m3 := m_nd y x
  unfold rd at e ⊢
  simp [g_plus, b_plus, outRes, m1, m2, m3, dAdd, e]
theorem ltimes_ok {a b : Rat} (x : Sz a) (y : Sz b) : g__law_times [rd a, rd b] = .ok (rd (a * b)) := by
  have e := low_ok (t := a.num * b.num) (denp a b) (den840 x y)
  rw [mul_as] at e
  have m1 := m_nn x y
  have m2 := m_dd x y
  unfold rd at e ⊢
  simp [g__law_times, b__law_times, outRes, m1, m2, e]
theorem lplus_ok {a b : Rat} (x : Sz a) (y : Sz b) : g__law_plus [rd a, rd b] = .ok (rd (a + b)) := by
  have e := low_ok (t := a.num * (b.den : Int) + b.num * (a.den : Int)) (denp a b) (den840 x y)
  rw [add_as] at e
  have m1 := m_nd x y
  have m2 := m_dd x y
  have m3 := m_nd y x
  unfold rd at e ⊢
  simp [g__law_plus, b__law_plus, outRes, m1, m2, m3, dAdd, e]
theorem lless_ok {a b : Rat} (x : Sz a) (y : Sz b) : g__law_less [rd a, rd b] = .ok (rd (a - b)) := by
  have e := low_ok (t := a.num * (b.den : Int) - b.num * (a.den : Int)) (denp a b) (den840 x y)
  rw [sub_as] at e
  have m1 := m_nd x y
  have m2 := m_dd x y
  have m3 := m_nd y x
  unfold rd at e ⊢
  simp [g__law_less, b__law_less, outRes, m1, m2, m3, e]
theorem quot_ok {a b : Rat} (x : Sz a) (y : Sz b) (h : 0 < b.num) : g_quotient [rd a, rd b] = .ok (rd (a / b)) := by
  have hp : 0 < (a.den : Int) * b.num := Int.mul_pos (by have := a.den_pos; omega) h
  have hz : ((a.den : Int) * b.num).natAbs < 2 ^ 840 := by
    rw [Int.natAbs_mul, Int.natAbs_natCast]
    exact mul420 x.d y.n
  have e := lowest_ok (t := a.num * (b.den : Int)) hp hz
  rw [div_as a b h] at e
  have e1 := m_nd x y
  have e2 := m_dn x y
  unfold rd at e ⊢
  simp [g_quotient, b_quotient, outRes, e1, e2, e]
end W64
namespace W64
open PySem L2 PL
/-! sums -/
def sm (g : Nat → Rat) : Nat → Rat
  | 0 => 0
  | t + 1 => sm g t + g t
theorem sm_cong {g h : Nat → Rat} : ∀ m, (∀ k, k < m → g k = h k) → sm g m = sm h m
  | 0, _ => rfl
  | m + 1, e => by
    have a := sm_cong m fun k hk => e k (by omega)
    simp only [sm]
    rw [a, e m (by omega)]
theorem sm_zero {g : Nat → Rat} : ∀ m, (∀ k, k < m → g k = 0) → sm g m = 0
  | 0, _ => rfl
  | m + 1, e => by
    have a := sm_zero m fun k hk => e k (by omega)
    simp only [sm]
    rw [a, e m (by omega)]
    grind
theorem sm_add (g h : Nat → Rat) : ∀ m, sm (fun k => g k + h k) m = sm g m + sm h m
  | 0 => by simp only [sm]; grind
  | m + 1 => by
    have a := sm_add g h m
    simp only [sm]
    rw [a]
    grind
theorem sm_mul (c : Rat) (g : Nat → Rat) : ∀ m, sm (fun k => c * g k) m = c * sm g m
  | 0 => by simp [sm]
  | m + 1 => by
    have a := sm_mul c g m
    simp only [sm]
    rw [a]
    grind
theorem sm_split (g : Nat → Rat) (a : Nat) : ∀ b, sm g (a + b) = sm g a + sm (fun i => g (a + i)) b
  | 0 => by simp only [Nat.add_zero, sm]; grind
  | b + 1 => by
    have e := sm_split g a b
    rw [← Nat.add_assoc]
    simp only [sm]
    rw [e]
    grind
theorem sm_head (g : Nat → Rat) (m : Nat) : sm g (m + 1) = g 0 + sm (fun i => g (1 + i)) m := by
  have e := sm_split g 1 m
  rw [Nat.add_comm 1 m] at e
  rw [e]
  simp only [sm]
  grind
theorem sm_rev : ∀ (g : Nat → Rat) (m : Nat), sm (fun k => g (m - 1 - k)) m = sm g m
  | g, 0 => rfl
  | g, m + 1 => by
    have e := sm_rev g m
    rw [sm_head]
    have c : sm (fun i => g (m + 1 - 1 - (1 + i))) m = sm (fun k => g (m - 1 - k)) m := sm_cong m fun k hk => by
      congr 1
      omega
    rw [c, e]
    simp only [sm, Nat.add_sub_cancel, Nat.sub_zero]
    grind
/-- beyond its end a sum stays -/
theorem sm_ext {g : Nat → Rat} {a b : Nat} (h : a ≤ b) (e : ∀ k, a ≤ k → k < b → g k = 0) : sm g b = sm g a := by
  obtain ⟨c, rfl⟩ : ∃ c, b = a + c := ⟨b - a, by omega⟩
  rw [sm_split, sm_zero c fun k hk => e (a + k) (by omega) (by omega)]
  grind
/-! new ones -/
def uL (f : Nat → Rat) : Nat → List Rat
  | 0 => [1]
  | s + 1 => uL f s ++ [sm (fun k => f k * (uL f s).getD (s - k) 0) (s + 1)]
theorem uL_len (f : Nat → Rat) : ∀ s, (uL f s).length = s + 1
  | 0 => rfl
  | s + 1 => by simp [uL, uL_len f s]
def u (f : Nat → Rat) (i : Nat) : Rat := (uL f i).getD i 0
theorem uL_get (f : Nat → Rat) : ∀ s i, i ≤ s → (uL f s).getD i 0 = u f i
  | 0, i, h => by
    have : i = 0 := by omega
    subst this
    rfl
  | s + 1, i, h => by
    by_cases e : i = s + 1
    · subst e; rfl
    · have a := uL_get f s i (by omega)
      rw [← a]
      simp only [uL, List.getD_eq_getElem?_getD]
      rw [List.getElem?_append_left (by rw [uL_len]; omega)]
theorem u_zero (f : Nat → Rat) : u f 0 = 1 := rfl
theorem u_succ (f : Nat → Rat) (s : Nat) : u f (s + 1) = sm (fun k => f k * u f (s - k)) (s + 1) := by
  have e : u f (s + 1) = sm (fun k => f k * (uL f s).getD (s - k) 0) (s + 1) := by
    unfold u
    rw [uL, List.getD_eq_getElem?_getD, List.getElem?_append_right (by rw [uL_len]; omega), uL_len]
    simp
  rw [e]
  exact sm_cong _ fun k hk => by rw [uL_get f s (s - k) (by omega)]
/-! by how many there were -/
def nx (f s : Nat → Rat) (i : Nat) : Rat := sm (fun a => s a * f (i - 1 - a)) i
def s0 (i : Nat) : Rat := if i = 0 then 1 else 0
def sj (f : Nat → Rat) : Nat → Nat → Rat
  | 0 => s0
  | j + 1 => nx f (sj f j)
def Fj (f : Nat → Rat) : Nat → Nat → Rat
  | 0, i => s0 i
  | j + 1, i => Fj f j i + sj f (j + 1) i
theorem nx_add (f a b : Nat → Rat) (i : Nat) : nx f (fun k => a k + b k) i = nx f a i + nx f b i := by
  unfold nx
  rw [← sm_add]
  exact sm_cong _ fun k hk => by grind
theorem Fj_step (f : Nat → Rat) : ∀ j i, Fj f (j + 1) i = s0 i + nx f (Fj f j) i
  | 0, i => rfl
  | j + 1, i => by
    have e := Fj_step f j i
    have h : Fj f (j + 1 + 1) i = Fj f (j + 1) i + nx f (sj f (j + 1)) i := rfl
    have g : (Fj f (j + 1)) = fun k => Fj f j k + sj f (j + 1) k := rfl
    rw [h, e, g, nx_add]
    grind
theorem Fj_u (f : Nat → Rat) : ∀ j i, i ≤ j → Fj f j i = u f i
  | 0, i, h => by
    have : i = 0 := by omega
    subst this
    rfl
  | j + 1, 0, h => by
    rw [Fj_step]
    simp only [s0, nx, sm, if_true]
    rw [u_zero]
    grind
  | j + 1, t + 1, h => by
    rw [Fj_step, u_succ]
    have z : s0 (t + 1) = 0 := by simp [s0]
    rw [z]
    unfold nx
    rw [← sm_rev (fun k => f k * u f (t - k)) (t + 1)]
    have c : sm (fun a => Fj f j a * f (t + 1 - 1 - a)) (t + 1) = sm (fun k => f (t + 1 - 1 - k) * u f (t - (t + 1 - 1 - k))) (t + 1) := sm_cong _ fun k hk => by
      rw [Fj_u f j k (by omega), show t - (t + 1 - 1 - k) = k by omega]
      grind
    rw [c]
    grind
/-! ages -/
def G (f : Nat → Rat) : Nat → Rat
  | 0 => 1
  | a + 1 => G f a - f a
theorem G_eq (f : Nat → Rat) : ∀ a, G f a = 1 - sm f a
  | 0 => by simp only [G, sm]; grind
  | a + 1 => by
    have e := G_eq f a
    simp only [G, sm]
    rw [e]
    grind
theorem ages_one (f : Nat → Rat) : ∀ N, sm (fun a => u f (N - a) * G f a) (N + 1) = 1
  | 0 => by
    have z := u_zero f
    simp only [sm, G, Nat.sub_zero]
    rw [z]
    grind
  | N + 1 => by
    have e := ages_one f N
    rw [sm_head]
    have c : sm (fun i => u f (N + 1 - (1 + i)) * G f (1 + i)) (N + 1) = sm (fun a => u f (N - a) * G f a + -1 * (f a * u f (N - a))) (N + 1) := sm_cong _ fun k hk => by
      rw [show N + 1 - (1 + k) = N - k by omega, Nat.add_comm 1 k]
      simp only [G]
      grind
    rw [c, sm_add, sm_mul, e, ← u_succ]
    simp only [G, Nat.sub_zero]
    grind
theorem mean_eq (f : Nat → Rat) : ∀ t : Nat, sm (G f) t = sm (fun k => ((k + 1 : Nat) : Rat) * f k) t + (t : Rat) * G f t
  | 0 => by simp only [sm]; grind
  | t + 1 => by
    have e := mean_eq f t
    have c : (((t + 1 : Nat)) : Rat) = (t : Rat) + 1 := by rw [Rat.natCast_add]; rfl
    simp only [sm, G]
    rw [e, c]
    grind
end W64
namespace W64
open PySem L2 PL
def ff (L : List Rat) (k : Nat) : Rat := L.getD k 0
structure Lv (L : List Rat) (B : Nat) : Prop where
  l1 : 1 ≤ L.length
  l2 : L.length ≤ 12
  b1 : 0 < B
  b2 : B ≤ 100
  nn : ∀ q ∈ L, 0 ≤ q
  bd : ∀ q ∈ L, Bd q B B
  sum : sm (ff L) L.length = 1
  last : 0 < ff L (L.length - 1)
/-- a portion over a power of the bottom -/
def Q (B : Nat) (q : Rat) (e M : Nat) : Prop := Bd q (B ^ e) (M * B ^ e)
section
variable {B : Nat} {p q : Rat} {e e2 M M2 : Nat}
theorem Q.mono (x : Q B q e M) (h : M ≤ M2) : Q B q e M2 := Bd.mono x (Nat.mul_le_mul_right _ h)
theorem Q.add (x : Q B p e M) (y : Q B q e M2) : Q B (p + q) e (M + M2) := by
  have := Bd.add x y
  rw [← Nat.add_mul] at this
  exact this
theorem Q.sub (x : Q B p e M) (y : Q B q e M2) : Q B (p - q) e (M + M2) := by
  have := Bd.sub x y
  rw [← Nat.add_mul] at this
  exact this
theorem Q.mul (x : Q B p e M) (y : Q B q e2 M2) : Q B (p * q) (e + e2) (M * M2) := by
  have := Bd.mul x y
  rw [← Nat.pow_add, show M * B ^ e * (M2 * B ^ e2) = M * M2 * (B ^ e * B ^ e2) by rw [Nat.mul_mul_mul_comm], ← Nat.pow_add] at this
  exact this
theorem Q.up (b1 : 0 < B) (x : Q B q e M) (h : e ≤ e2) : Q B q e2 M := by
  obtain ⟨d, rfl⟩ : ∃ d, e2 = e + d := ⟨e2 - e, by omega⟩
  have := Bd.up x (Nat.pow_pos (n := d) b1)
  rw [← Nat.pow_add, Nat.mul_assoc, ← Nat.pow_add] at this
  exact this
theorem Q.zero (b1 : 0 < B) : Q B 0 e 0 := ⟨Nat.pow_pos b1, 0, by simp, by simp⟩
theorem Q.nat (n : Nat) (b1 : 0 < B) : Q B (n : Rat) e n := Q.up b1 (e := 0) (by unfold Q; simpa using Bd.nat n) (Nat.zero_le _)
theorem Q.sm {g : Nat → Rat} (b1 : 0 < B) : ∀ m, (∀ k, k < m → Q B (g k) e M) → Q B (W64.sm g m) e (m * M)
  | 0, _ => by rw [Nat.zero_mul]; exact Q.zero b1
  | m + 1, h => by
    have := Q.add (Q.sm b1 m fun k hk => h k (by omega)) (h m (by omega))
    rw [Nat.add_mul, Nat.one_mul]
    exact this
theorem p100 : (100 : Nat) ^ 32 < 2 ^ 213 := by decide
theorem Q.sz (b2 : B ≤ 100) (x : Q B q e M) (he : e ≤ 32) (hM : M ≤ 2 ^ 200) : Sz q := by
  have a : B ^ e ≤ 100 ^ 32 := Nat.le_trans (Nat.pow_le_pow_left b2 e) (Nat.pow_le_pow_right (by decide) he)
  have b := p100
  refine Bd.sz x ?_ ?_
  · have : (2 : Nat) ^ 213 < 2 ^ 420 := by decide
    omega
  · have h1 : M * B ^ e ≤ 2 ^ 200 * 2 ^ 213 := Nat.mul_le_mul hM (by omega)
    have : (2 : Nat) ^ 200 * 2 ^ 213 < 2 ^ 420 := by decide
    omega
end
section
variable {L : List Rat} {B : Nat}
theorem ff_mem {k : Nat} (h : k < L.length) : ff L k ∈ L := by
  unfold ff
  rw [List.getD_eq_getElem?_getD, List.getElem?_eq_getElem h]
  exact List.getElem_mem h
theorem ff_out {k : Nat} (h : L.length ≤ k) : ff L k = 0 := by
  unfold ff
  rw [List.getD_eq_getElem?_getD, List.getElem?_eq_none h]
  rfl
theorem ff_nn (v : Lv L B) (k : Nat) : 0 ≤ ff L k := by
  by_cases h : k < L.length
  · exact v.nn _ (ff_mem h)
  · rw [ff_out (by omega)]; exact Rat.le_refl
theorem ff_q (v : Lv L B) (k : Nat) : Q B (ff L k) 1 1 := by
  by_cases h : k < L.length
  · have := v.bd _ (ff_mem h)
    unfold Q
    simpa using this
  · rw [ff_out (by omega)]; exact (Q.zero v.b1).mono (by omega)
theorem p31 {i : Nat} (h : i ≤ 30) : 31 ^ i ≤ 2 ^ 150 := Nat.le_trans (Nat.pow_le_pow_right (by decide) h) (by decide)
theorem u_q (v : Lv L B) : ∀ i, i ≤ 30 → Q B (u (ff L) i) i (31 ^ i) := by
  intro i
  induction i using Nat.strongRecOn with
  | ind i ih =>
    intro h
    cases i with
    | zero => rw [u_zero]; have := Q.nat (B := B) (e := 0) 1 v.b1; simpa using this
    | succ s =>
      rw [u_succ]
      have a : ∀ k, k < s + 1 → Q B (ff L k * u (ff L) (s - k)) (s + 1) (31 ^ s) := fun k hk => by
        have b := Q.mul (ff_q v k) (ih (s - k) (by omega) (by omega))
        rw [Nat.one_mul] at b
        exact (b.up v.b1 (by omega)).mono (Nat.pow_le_pow_right (by decide) (by omega))
      exact (Q.sm v.b1 (s + 1) a).mono (by rw [Nat.pow_succ, Nat.mul_comm]; exact Nat.mul_le_mul_left _ (by omega))
theorem nx_q (v : Lv L B) {s : Nat → Rat} {i : Nat} (hi : i ≤ 30) (hs : ∀ a, a < i → Q B (s a) a (31 ^ a)) : ∀ m, m ≤ i → Q B (sm (fun a => s a * ff L (i - 1 - a)) m) i (m * 31 ^ (i - 1)) := fun m hm =>
  Q.sm v.b1 m fun k hk => by
    have b := Q.mul (hs k (by omega)) (ff_q v (i - 1 - k))
    rw [Nat.mul_one] at b
    exact (b.up v.b1 (by omega)).mono (Nat.pow_le_pow_right (by decide) (by omega))
theorem sj_q (v : Lv L B) : ∀ j i, i ≤ 30 → Q B (sj (ff L) j i) i (31 ^ i)
  | 0, i, _ => by
    show Q B (s0 i) i _
    unfold s0
    split
    · rename_i h; subst h; have := Q.nat (B := B) (e := 0) 1 v.b1; simpa using this
    · exact (Q.zero v.b1).mono (Nat.zero_le _)
  | j + 1, i, h => by
    cases i with
    | zero => exact (Q.zero v.b1).mono (Nat.zero_le _)
    | succ t =>
      refine (nx_q v h (fun a ha => sj_q v j a (by omega)) (t + 1) (Nat.le_refl _)).mono ?_
      rw [Nat.add_sub_cancel, Nat.pow_succ, Nat.mul_comm]
      exact Nat.mul_le_mul_left _ (by omega)
theorem Fj_q (v : Lv L B) : ∀ j i, i ≤ 30 → Q B (Fj (ff L) j i) i ((j + 1) * 31 ^ i)
  | 0, i, h => by have := sj_q v 0 i h; rw [Nat.zero_add, Nat.one_mul]; exact this
  | j + 1, i, h => by
    have := Q.add (Fj_q v j i h) (sj_q v (j + 1) i h)
    rw [Nat.add_mul, Nat.one_mul]
    exact this
theorem sm_nn {g : Nat → Rat} : ∀ m, (∀ k, k < m → 0 ≤ g k) → 0 ≤ sm g m
  | 0, _ => Rat.le_refl
  | m + 1, h => Rat.add_nonneg (sm_nn m fun k hk => h k (by omega)) (h m (by omega))
theorem sm_le {g h : Nat → Rat} : ∀ m, (∀ k, k < m → g k ≤ h k) → sm g m ≤ sm h m
  | 0, _ => Rat.le_refl
  | m + 1, e => by
    have a := sm_le m fun k hk => e k (by omega)
    have b := e m (by omega)
    simp only [sm]
    grind
theorem sj_nn (v : Lv L B) : ∀ j i, 0 ≤ sj (ff L) j i
  | 0, i => by
    show 0 ≤ s0 i
    unfold s0
    split
    · decide
    · decide
  | j + 1, i => sm_nn i fun k _ => Rat.mul_nonneg (sj_nn v j k) (ff_nn v _)
theorem sum_q (v : Lv L B) (m : Nat) : Q B (sm (ff L) m) 1 m := by
  have := Q.sm v.b1 m (fun k _ => ff_q v k)
  rwa [Nat.mul_one] at this
theorem G_q (v : Lv L B) (a : Nat) : Q B (G (ff L) a) 1 (a + 1) := by
  rw [G_eq, Nat.add_comm]
  exact Q.sub (by have := Q.nat (B := B) (e := 1) 1 v.b1; simpa using this) (sum_q v a)
theorem G_out (v : Lv L B) {a : Nat} (h : L.length ≤ a) : G (ff L) a = 0 := by
  rw [G_eq, sm_ext h fun k hk _ => ff_out hk, v.sum]
  grind
/-- the mean -/
def mn (L : List Rat) : Rat := sm (fun k => ((k + 1 : Nat) : Rat) * ff L k) L.length
theorem mnp_q (v : Lv L B) {m : Nat} (h : m ≤ 12) : Q B (sm (fun k => ((k + 1 : Nat) : Rat) * ff L k) m) 1 144 := by
  refine (Q.sm v.b1 (M := 12) m fun k hk => ?_).mono (by omega)
  have := Q.mul (Q.nat (B := B) (e := 0) (k + 1) v.b1) (ff_q v k)
  rw [Nat.zero_add, Nat.mul_one] at this
  exact this.mono (by omega)
theorem mn_pos (v : Lv L B) : 0 < mn L := by
  have h : sm (ff L) L.length ≤ mn L := sm_le _ fun k hk => by
    have a := ff_nn v k
    have c : (((k + 1 : Nat)) : Rat) = (k : Rat) + 1 := by rw [Rat.natCast_add]; rfl
    have b : 0 ≤ (k : Rat) * ff L k := Rat.mul_nonneg Rat.natCast_nonneg a
    rw [c]
    grind
  rw [v.sum] at h
  grind
theorem mn_G (v : Lv L B) : sm (G (ff L)) L.length = mn L := by
  rw [mean_eq, G_out v (Nat.le_refl _)]
  unfold mn
  grind
/-- what comes before a bound -/
theorem ages_sum (v : Lv L B) (N : Nat) : sm (fun a => if a ≤ N then u (ff L) (N - a) * G (ff L) a else 0) L.length = 1 := by
  rw [← ages_one (ff L) N]
  have a : sm (fun a => if a ≤ N then u (ff L) (N - a) * G (ff L) a else 0) (L.length + (N + 1)) = sm (fun a => if a ≤ N then u (ff L) (N - a) * G (ff L) a else 0) L.length := sm_ext (by omega) fun k hk _ => by
    rw [G_out v hk]
    split <;> grind
  have b : sm (fun a => if a ≤ N then u (ff L) (N - a) * G (ff L) a else 0) (L.length + (N + 1)) = sm (fun a => if a ≤ N then u (ff L) (N - a) * G (ff L) a else 0) (N + 1) := sm_ext (by omega) fun k hk _ => by
    rw [if_neg (by omega)]
  rw [← a, b]
  exact sm_cong _ fun k hk => by rw [if_pos (by omega)]
end
end W64
namespace W64
open PySem L2 PL
theorem blk_yes {vs : List Nat} {tgt : D → Ev → Res Ev} {test : Ev → Res (Bool × Ev)} {elt : Ev → Res (D × Ev)} {x d : D} {ε ε1 ε2 ε3 ε4 : Ev} (h1 : tgt x (wipeE ε vs) = .ok ε1) (h2 : test ε1 = .ok (true, ε2)) (h3 : elt ε2 = .ok (d, ε3)) (h4 : backE ε ε3 vs = ε4) : blkF vs tgt test elt x ε = .ok (some d, ε4) := by
  simp only [blkF, h1, h2, h3, h4, Res.bind_ok, if_true]
theorem blk_no {vs : List Nat} {tgt : D → Ev → Res Ev} {test : Ev → Res (Bool × Ev)} {elt : Ev → Res (D × Ev)} {x : D} {ε ε1 ε2 ε4 : Ev} (h1 : tgt x (wipeE ε vs) = .ok ε1) (h2 : test ε1 = .ok (false, ε2)) (h4 : backE ε ε2 vs = ε4) : blkF vs tgt test elt x ε = .ok (none, ε4) := by
  simp only [blkF, h1, h2, h4, Res.bind_ok, if_false, Bool.false_eq_true]
theorem comp_all {vs : List Nat} {src : Ev → Res (List D × Ev)} {tgt : D → Ev → Res Ev} {test : Ev → Res (Bool × Ev)} {elt : Ev → Res (D × Ev)} {m : Nat} (it out : Nat → D) {ε ε1 : Ev} (hs : src ε = .ok ((List.range m).map it, ε1)) (hl : m ≤ 1000000) (hn : noOw ε1 vs = true)
    (h : ∀ j, j < m → blkF vs tgt test elt (it j) ε1 = .ok (some (out j), ε1)) : eComp vs src tgt test elt ε = .ok ((List.range m).map out, ε1) := by
  have t := eComp_filter (vs := vs) (tgt := tgt) (test := test) (elt := elt) it (fun _ => true) out hs rfl (by simpa using hl) hn fun j hj => by
    rw [h j (List.mem_range.mp hj)]
    rfl
  rwa [List.filter_eq_self.mpr fun _ _ => rfl] at t
theorem filter_le (m s : Nat) : (List.range m).filter (fun k => decide (k < s)) = List.range (min m s) := by
  induction m with
  | zero => simp
  | succ m ih =>
    rw [List.range_succ, List.filter_append, ih]
    by_cases h : m < s
    · rw [show min (m + 1) s = m + 1 by omega, show min m s = m by omega, List.range_succ]
      simp [h]
    · rw [show min (m + 1) s = s by omega, show min m s = s by omega]
      simp [h]
def rds (g : Nat → Rat) (m : Nat) : List D := (List.range m).map fun k => rd (g k)
theorem rds_len (g : Nat → Rat) (m : Nat) : (rds g m).length = m := by simp [rds]
theorem rds_succ (g : Nat → Rat) (m : Nat) : rds g (m + 1) = rds g m ++ [rd (g m)] := by simp [rds, List.range_succ]
theorem rds_get {g : Nat → Rat} {m i : Nat} (h : i < m) : (rds g m)[i]? = some (rd (g i)) := by simp [rds, h]
theorem rds_cong {g h : Nat → Rat} {m : Nat} (e : ∀ k, k < m → g k = h k) : rds g m = rds h m := by
  unfold rds
  refine List.map_congr_left fun k hk => ?_
  rw [e k (List.mem_range.mp hk)]
theorem rds_drop (g : Nat → Rat) (m a : Nat) : (rds g m).drop a = rds (fun i => g (a + i)) (m - a) := by
  refine List.ext_getElem? fun i => ?_
  rw [List.getElem?_drop]
  by_cases h : i < m - a
  · rw [rds_get h, rds_get (by omega)]
  · rw [List.getElem?_eq_none (by rw [rds_len]; omega), List.getElem?_eq_none (by rw [rds_len]; omega)]
theorem ix_lst {g : Nat → Rat} {m i : Nat} {z : Int} (h : i < m) (hz : z = (i : Int)) : dIx (.lst (rds g m)) (.int z) = .ok (rd (g i)) := by
  subst hz
  show (match L2.atI (rds g m) (i : Int) with | some x => Res.ok x | none => .stuck) = _
  rw [L2.atI_nat (rds_get h)]
theorem ix_tup {g : Nat → Rat} {m i : Nat} {z : Int} (h : i < m) (hz : z = (i : Int)) : dIx (.tup (rds g m)) (.int z) = .ok (rd (g i)) := by
  subst hz
  show (match L2.atI (rds g m) (i : Int) with | some x => Res.ok x | none => .stuck) = _
  rw [L2.atI_nat (rds_get h)]
theorem enumD_map (h : Nat → D) (d : Nat) : ∀ m a, enumD (a + d) ((List.range' a m).map h) = (List.range' a m).map fun k => .tup [.int ((k + d : Nat) : Int), h k]
  | 0, a => rfl
  | m + 1, a => by
    have e := enumD_map h d m (a + 1)
    rw [List.range'_succ]
    simp only [List.map_cons, enumD]
    rw [show a + d + 1 = a + 1 + d by omega, e]
theorem enum_rds (g : Nat → Rat) (m d : Nat) : enumD d (rds g m) = (List.range m).map fun k => .tup [.int ((k + d : Nat) : Int), rd (g k)] := by
  have e := enumD_map (fun k => rd (g k)) d m 0
  rw [Nat.zero_add] at e
  unfold rds
  rw [List.range_eq_range', e]
theorem rd0 : D.tup [.int 0, .int 1] = rd 0 := by rfl
theorem rd1 : D.tup [.int 1, .int 1] = rd 1 := by rfl
theorem tot_loop {g : Nat → Rat} {x0 : Slot} : ∀ (k t : Nat) (j : Slot), (∀ i, i ≤ t + k → Sz (sm g i)) → (∀ i, i < t + k → Sz (g i)) → ∃ j', forF T1_total B1_total ((List.range' t k).map fun i => rd (g i)) [x0, .pu (rd (sm g t)), j] = .nx [x0, .pu (rd (sm g (t + k))), j']
  | 0, t, j, _, _ => ⟨j, rfl⟩
  | k + 1, t, j, h1, h2 => by
    obtain ⟨j', e⟩ := tot_loop (g := g) (x0 := x0) k (t + 1) (.pu (rd (g t))) (fun i hi => h1 i (by omega)) (fun i hi => h2 i (by omega))
    refine ⟨j', ?_⟩
    have e1 := plus_ok (h1 t (by omega)) (h2 t (by omega))
    have t1 : T1_total (rd (g t)) [x0, .pu (rd (sm g t)), j] = .ok [x0, .pu (rd (sm g t)), .pu (rd (g t))] := rfl
    have b1 : B1_total [x0, .pu (rd (sm g t)), .pu (rd (g t))] = .nx [x0, .pu (rd (sm g (t + 1))), .pu (rd (g t))] := sTg_ok (eCB_ok (by rfl) e1) rfl
    rw [List.range'_succ, List.map_cons]
    simp only [forF, t1, Res.ne, b1, e]
    rw [show t + 1 + k = t + (k + 1) by omega]
theorem total_ok {g : Nat → Rat} {m : Nat} {x : D} (hx : dSeq x = .ok (rds g m)) (h1 : ∀ i, i ≤ m → Sz (sm g i)) (h2 : ∀ i, i < m → Sz (g i)) : g_total [x] = .ok (rd (sm g m)) := by
  obtain ⟨j', e⟩ := tot_loop (g := g) (x0 := .pu x) m 0 .em (fun i hi => h1 i (by omega)) (fun i hi => h2 i (by omega))
  rw [Nat.zero_add, ← List.range_eq_range'] at e
  have src : S1_total [.pu x, .pu (rd 0), .em] = .ok (rds g m, [.pu x, .pu (rd 0), .em]) := by simp [hx]
  show outRes (b_total (startE 3 [x])) = _
  have st : startE 3 [x] = [.pu x, .em, .em] := rfl
  rw [st]
  unfold b_total
  refine out_seq (ε1 := [.pu x, .pu (rd 0), .em]) (by rfl) ?_
  refine out_seq (ε1 := [.pu x, .pu (rd (sm g m)), j']) (sFor_ok src e) (by rfl)
theorem lsum_loop {g : Nat → Rat} {x0 : Slot} : ∀ (k t : Nat) (j : Slot), (∀ i, i ≤ t + k → Sz (sm g i)) → (∀ i, i < t + k → Sz (g i)) → ∃ j', forF T1__law_sum B1__law_sum ((List.range' t k).map fun i => rd (g i)) [x0, .pu (rd (sm g t)), j] = .nx [x0, .pu (rd (sm g (t + k))), j']
  | 0, t, j, _, _ => ⟨j, rfl⟩
  | k + 1, t, j, h1, h2 => by
    obtain ⟨j', e⟩ := lsum_loop (g := g) (x0 := x0) k (t + 1) (.pu (rd (g t))) (fun i hi => h1 i (by omega)) (fun i hi => h2 i (by omega))
    refine ⟨j', ?_⟩
    have e1 := lplus_ok (h1 t (by omega)) (h2 t (by omega))
    have t1 : T1__law_sum (rd (g t)) [x0, .pu (rd (sm g t)), j] = .ok [x0, .pu (rd (sm g t)), .pu (rd (g t))] := rfl
    have b1 : B1__law_sum [x0, .pu (rd (sm g t)), .pu (rd (g t))] = .nx [x0, .pu (rd (sm g (t + 1))), .pu (rd (g t))] := sTg_ok (eCB_ok (by rfl) e1) rfl
    rw [List.range'_succ, List.map_cons]
    simp only [forF, t1, Res.ne, b1, e]
    rw [show t + 1 + k = t + (k + 1) by omega]
theorem lsum_ok {g : Nat → Rat} {m : Nat} {x : D} (hx : dSeq x = .ok (rds g m)) (h1 : ∀ i, i ≤ m → Sz (sm g i)) (h2 : ∀ i, i < m → Sz (g i)) : g__law_sum [x] = .ok (rd (sm g m)) := by
  obtain ⟨j', e⟩ := lsum_loop (g := g) (x0 := .pu x) m 0 .em (fun i hi => h1 i (by omega)) (fun i hi => h2 i (by omega))
  rw [Nat.zero_add, ← List.range_eq_range'] at e
  have src : S1__law_sum [.pu x, .pu (rd 0), .em] = .ok (rds g m, [.pu x, .pu (rd 0), .em]) := by simp [hx]
  show outRes (b__law_sum (startE 3 [x])) = _
  have st : startE 3 [x] = [.pu x, .em, .em] := rfl
  rw [st]
  unfold b__law_sum
  refine out_seq (ε1 := [.pu x, .pu (rd 0), .em]) (by rfl) ?_
  refine out_seq (ε1 := [.pu x, .pu (rd (sm g m)), j']) (sFor_ok src e) (by rfl)
theorem whole_ok (v lo hi : Int) : g_is_whole [.int v, .int lo, .int hi] = .ok (.bl (decide (lo ≤ v) && decide (v ≤ hi))) := by
  by_cases h1 : lo ≤ v <;> by_cases h2 : v ≤ hi <;> simp [g_is_whole, b_is_whole, outRes, h1, h2]
theorem isp_ok {q : Rat} (h1 : q.num.natAbs ≤ 1000000000) (h2 : q.den ≤ 1000000000) : g_is_portion [rd q] = .ok (.bl true) := by
  have a1 : g_is_tuple_of [rd q, .int 2, .int 2] = .ok (.bl true) := by simp [g_is_tuple_of, b_is_tuple_of, outRes, rd]
  have a2 : g_is_whole [.int q.num, .int (-1000000000000000000000000000000000000000000000000000000000000), .int 1000000000000000000000000000000000000000000000000000000000000] = .ok (.bl true) := by
    rw [whole_ok]
    have a : (-1000000000000000000000000000000000000000000000000000000000000 : Int) ≤ q.num := by omega
    have b : q.num ≤ (1000000000000000000000000000000000000000000000000000000000000 : Int) := by omega
    simp [a, b]
  have a3 : g_is_whole [.int (q.den : Int), .int 1, .int 1000000000000000000000000000000000000000000000000000000000000] = .ok (.bl true) := by
    rw [whole_ok]
    have a : (1 : Int) ≤ (q.den : Int) := by have := q.den_pos; omega
    have b : (q.den : Int) ≤ (1000000000000000000000000000000000000000000000000000000000000 : Int) := by omega
    simp [a, b]
  have h4 : Nat.gcd q.num.natAbs q.den = 1 := q.reduced
  unfold rd at a1 ⊢
  simp [g_is_portion, b_is_portion, outRes, a1, a2, a3, h4, dEq_int]
/-- a small portion -/
structure Sm (q : Rat) : Prop where
  l : 0 ≤ q
  h : q ≤ 1
  d : q.den ≤ 100
theorem Sm.nl {q : Rat} (s : Sm q) : 0 ≤ q.num := Rat.num_nonneg.mpr s.l
theorem Sm.nh {q : Rat} (s : Sm q) : q.num ≤ (q.den : Int) := by
  have h := (Rat.le_iff q 1).mp s.h
  simpa using h
theorem small_ok {q : Rat} (s : Sm q) : g_is_small [rd q] = .ok (.bl true) := by
  have n1 := s.nl
  have n2 := s.nh
  have n3 := s.d
  have p := isp_ok (q := q) (by omega) (by omega)
  have n4 : (q.den : Int) ≤ 100 := by omega
  unfold rd at p ⊢
  simp [g_is_small, b_is_small, outRes, p, n1, n2, n4]
section
variable {L : List Rat} {B : Nat}
def lv (L : List Rat) : D := .tup (rds (ff L) L.length)
theorem bd_small {q : Rat} {B : Nat} (b0 : 0 < B) (h : Bd q B B) : q ≤ 1 := by
  obtain ⟨_, A, e, l⟩ := h
  have n : (0 : Rat) < (B : Rat) := by
    have : ((0 : Nat) : Rat) < (B : Rat) := Rat.natCast_lt_natCast.mpr b0
    simpa using this
  refine Rat.le_of_mul_le_mul_right ?_ n
  rw [e, Rat.one_mul, ← Rat.intCast_natCast]
  exact Rat.intCast_le_intCast.mpr (by omega)
theorem ff_sm (v : Lv L B) {k : Nat} (h : k < L.length) : Sm (ff L k) := by
  have m := ff_mem h
  have b := v.bd _ m
  refine ⟨v.nn _ m, bd_small v.b1 b, ?_⟩
  obtain ⟨h0, A, e, l⟩ := b
  have e2 : (ff L k).num * (B : Int) = A * ((ff L k).den : Int) := by
    apply Rat.intCast_inj.mp
    rw [Rat.intCast_mul, Rat.intCast_mul, Rat.intCast_natCast, Rat.intCast_natCast, rat_nd (ff L k)]
    grind
  have e3 : (ff L k).num.natAbs * B = A.natAbs * (ff L k).den := by
    have := congrArg Int.natAbs e2
    rwa [Int.natAbs_mul, Int.natAbs_mul, Int.natAbs_natCast, Int.natAbs_natCast] at this
  have dv : (ff L k).den ∣ B := by
    have : (ff L k).den ∣ (ff L k).num.natAbs * B := ⟨A.natAbs, by rw [e3, Nat.mul_comm]⟩
    exact (Nat.Coprime.symm (ff L k).reduced).dvd_of_dvd_mul_left this
  exact Nat.le_trans (Nat.le_of_dvd v.b1 dv) v.b2
theorem ff_sz (v : Lv L B) (k : Nat) : Sz (ff L k) := (ff_q v k).sz v.b2 (by omega) (by decide)
theorem sum_sz (v : Lv L B) {m : Nat} (h : m ≤ 100) : Sz (sm (ff L) m) := (sum_q v m).sz v.b2 (by omega) (Nat.le_trans h (by decide))
theorem allB_t (m : Nat) : allB ((List.range m).map fun _ => D.bl true) = some (List.replicate m true) := by
  have : ((List.range m).map fun _ => D.bl true) = List.replicate m (D.bl true) := List.eq_replicate_iff.mpr ⟨by rw [List.length_map, List.length_range], fun b hb => by
    obtain ⟨_, _, rfl⟩ := List.mem_map.mp hb
    rfl⟩
  rw [this]
  clear this
  induction m with
  | zero => rfl
  | succ m ih =>
    rw [List.replicate_succ, List.replicate_succ]
    show (allB (List.replicate m (D.bl true))).map (true :: ·) = _
    rw [ih]
    rfl
theorem num_pos {q : Rat} (h : 0 < q) : 0 < q.num := by
  rcases Int.lt_or_le 0 q.num with a | a
  · exact a
  · have b : 0 ≤ (-q).num := by rw [Rat.neg_num]; omega
    have c := Rat.num_nonneg.mp b
    grind
theorem tuple_of (ds : List D) {lo hi : Int} (h1 : lo ≤ (ds.length : Int)) (h2 : (ds.length : Int) ≤ hi) : g_is_tuple_of [.tup ds, .int lo, .int hi] = .ok (.bl true) := by
  simp [g_is_tuple_of, b_is_tuple_of, outRes, h1, h2]
theorem need_lives_ok (v : Lv L B) : g_need_lives [lv L] = .ok .non := by
  have h1 := v.l1
  have h2 := v.l2
  have t := tuple_of (rds (ff L) L.length) (lo := 1) (hi := 12) (by rw [rds_len]; omega) (by rw [rds_len]; omega)
  have st : startE 2 [lv L] = [.pu (lv L), .em] := rfl
  have v0 : ∀ s, eV 0 [.pu (lv L), s] = .ok (lv L, [.pu (lv L), s]) := fun _ => rfl
  have src : CS1_need_lives [.pu (lv L), .em] = .ok ((List.range L.length).map fun k => rd (ff L k), [.pu (lv L), .em]) := rfl
  have cm : eComp [1] CS1_need_lives CT1_need_lives CP1_need_lives CE1_need_lives [.pu (lv L), .em] = .ok ((List.range L.length).map fun _ => .bl true, [.pu (lv L), .em]) :=
    comp_all (fun k => rd (ff L k)) (fun _ => .bl true) src (by omega) rfl fun j hj =>
      blk_yes (ε1 := [.pu (lv L), .pu (rd (ff L j))]) rfl rfl (eCB_ok (by rfl) (small_ok (ff_sm v hj))) rfl
  have al : fAll [.lst ((List.range L.length).map fun _ => D.bl true)] = .ok (.bl true) := by
    simp [fAll, allB_t]
  have to := total_ok (x := lv L) (g := ff L) (m := L.length) rfl (fun i hi => sum_sz v (by omega)) (fun i hi => ff_sz v i)
  rw [v.sum] at to
  have ln : 0 < (ff L (L.length - 1)).num := num_pos v.last
  have ix : dIx (lv L) (.int (-1)) = .ok (rd (ff L (L.length - 1))) := by
    have a : L2.atI (rds (ff L) L.length) (-1) = (rds (ff L) L.length)[L.length - 1]? := by
      simp only [L2.atI, s_ixN, rds_len]
      rw [if_neg (by decide), if_pos (by omega)]
      show (rds (ff L) L.length)[((-1 : Int) + (L.length : Int)).toNat]? = _
      congr 1
      omega
    show (match L2.atI (rds (ff L) L.length) (-1) with | some x => Res.ok x | none => .stuck) = _
    rw [a, rds_get (by omega)]
  have ix2 : dIx (rd (ff L (L.length - 1))) (.int 0) = .ok (.int (ff L (L.length - 1)).num) := rfl
  have ne1 : dNe (rd 1) (.tup [.int 1, .int 1]) = .ok (.bl false) := by rfl
  have eq0 : dEq (.int (ff L (L.length - 1)).num) (.int 0) = .ok (.bl false) := by
    rw [dEq_int]
    have : ¬ (ff L (L.length - 1)).num = 0 := by omega
    simp [this]
  show outRes (b_need_lives (startE 2 [lv L])) = _
  rw [st]
  unfold b_need_lives
  refine out_seq (ε1 := [.pu (lv L), .em]) ?_ ?_
  · refine sIf_f (ε1 := [.pu (lv L), .em]) ?_ rfl
    have c1 : bNot (bOf (eCB g_is_tuple_of (aCons (eV 0) (aCons (eC (.int 1)) (aCons (eC (.int 12)) aNil))))) [.pu (lv L), .em] = .ok (false, [.pu (lv L), .em]) := bNot_ok (c := true) (bOf_ok (eCB_ok (by rfl) t))
    have c2 : bNot (bOf (eCB fAll (aCons (eL (eComp [1] CS1_need_lives CT1_need_lives CP1_need_lives CE1_need_lives)) aNil))) [.pu (lv L), .em] = .ok (false, [.pu (lv L), .em]) := bNot_ok (c := true) (bOf_ok (eCB_ok (aCons_ok (eL_ok cm) aNil_ok) al))
    simp only [bOr, c1, c2, Res.bind_ok, Bool.false_eq_true, if_false]
  · have c1 : bOf (eOp dNe (eCB g_total (aCons (eV 0) aNil)) (eTup (aCons (eC (.int 1)) (aCons (eC (.int 1)) aNil)))) [.pu (lv L), .em] = .ok (false, [.pu (lv L), .em]) := bOf_ok (eOp_ok (eCB_ok (by rfl) to) (by rfl) ne1)
    have c2 : bOf (eOp dEq (eOp dIx (eOp dIx (eV 0) (eUn dNeg (eC (.int 1)))) (eC (.int 0))) (eC (.int 0))) [.pu (lv L), .em] = .ok (false, [.pu (lv L), .em]) := bOf_ok (eOp_ok (eOp_ok (eOp_ok (by rfl) (by rfl) ix) (by rfl) ix2) (by rfl) eq0)
    have o : bOr (bOf (eOp dNe (eCB g_total (aCons (eV 0) aNil)) (eTup (aCons (eC (.int 1)) (aCons (eC (.int 1)) aNil))))) (bOf (eOp dEq (eOp dIx (eOp dIx (eV 0) (eUn dNeg (eC (.int 1)))) (eC (.int 0))) (eC (.int 0)))) [.pu (lv L), .em] = .ok (false, [.pu (lv L), .em]) := by
      simp only [bOr, c1, c2, Res.bind_ok, Bool.false_eq_true, if_false]
    rw [sIf_f o rfl]
theorem need_both_ok (v : Lv L B) {N : Nat} (hN : N ≤ 30) : g_need_both [lv L, .int (N : Int)] = .ok .non := by
  have n := need_lives_ok v
  have w : g_need_whole [.int (N : Int), .int 0, .int 30] = .ok .non := by
    have a : (0 : Int) ≤ (N : Int) := by omega
    have b : (N : Int) ≤ 30 := by omega
    simp [g_need_whole, b_need_whole, outRes, whole_ok, a, b]
  simp [g_need_both, b_need_both, outRes, n, w]
end
end W64
namespace W64
open PySem L2 PL
section
variable {L : List Rat} {B : Nat}
theorem u_sz (v : Lv L B) {i : Nat} (h : i ≤ 30) : Sz (u (ff L) i) := (u_q v i h).sz v.b2 (by omega) (Nat.le_trans (p31 h) (by decide))
theorem t_q (v : Lv L B) {s k : Nat} (hs : s + 1 ≤ 30) (hk : k < s + 1) : Q B (ff L k * u (ff L) (s - k)) (s + 1) (31 ^ s) := by
  have b := Q.mul (ff_q v k) (u_q v (s - k) (by omega))
  rw [Nat.one_mul] at b
  exact (b.up v.b1 (by omega)).mono (Nat.pow_le_pow_right (by decide) (by omega))
theorem p31' {i M : Nat} (h : i ≤ 30) (hM : M ≤ 1000) : M * 31 ^ i ≤ 2 ^ 200 := by
  have a := p31 h
  have : M * 31 ^ i ≤ 1000 * 2 ^ 150 := Nat.mul_le_mul hM a
  exact Nat.le_trans this (by decide)
def NS (L : List Rat) (N s : Nat) (j k p : Slot) : Ev := [.pu (lv L), .pu (.int (N : Int)), .ow (rds (u (ff L)) (s + 1)), j, k, p]
theorem news_turn (v : Lv L B) {N s : Nat} (hs : s + 1 ≤ 30) : B1_news_in (NS L N s (.pu (.int ((s + 1 : Nat) : Int))) .em .em) = .nx (NS L N (s + 1) (.pu (.int ((s + 1 : Nat) : Int))) .em .em) := by
  have n12 := v.l2
  have src : CS1_news_in (NS L N s (.pu (.int ((s + 1 : Nat) : Int))) .em .em) = .ok ((List.range L.length).map fun k => .tup [.int ((k + 1 : Nat) : Int), rd (ff L k)], NS L N s (.pu (.int ((s + 1 : Nat) : Int))) .em .em) := by
    rw [← enum_rds]
    rfl
  have cm := eComp_filter (vs := [4, 5]) (tgt := CT1_news_in) (test := CP1_news_in) (elt := CE1_news_in) (fun k => .tup [.int ((k + 1 : Nat) : Int), rd (ff L k)]) (fun k => decide (k < s + 1)) (fun k => rd (ff L k * u (ff L) (s - k))) src rfl (by simp; omega) rfl fun k hk => by
    have hk' := List.mem_range.mp hk
    have tg : CT1_news_in (.tup [.int ((k + 1 : Nat) : Int), rd (ff L k)]) (wipeE (NS L N s (.pu (.int ((s + 1 : Nat) : Int))) .em .em) [4, 5]) = .ok (NS L N s (.pu (.int ((s + 1 : Nat) : Int))) (.pu (.int ((k + 1 : Nat) : Int))) (.pu (rd (ff L k)))) := rfl
    have le : dLe (.int ((k + 1 : Nat) : Int)) (.int ((s + 1 : Nat) : Int)) = .ok (.bl (decide (k < s + 1))) := by
      show Res.ok (D.bl (decide (((k + 1 : Nat) : Int) ≤ ((s + 1 : Nat) : Int)))) = _
      congr 2
      exact decide_eq_decide.mpr (by omega)
    have tst : CP1_news_in (NS L N s (.pu (.int ((s + 1 : Nat) : Int))) (.pu (.int ((k + 1 : Nat) : Int))) (.pu (rd (ff L k)))) = .ok (decide (k < s + 1), NS L N s (.pu (.int ((s + 1 : Nat) : Int))) (.pu (.int ((k + 1 : Nat) : Int))) (.pu (rd (ff L k)))) := bOf_ok (eOp_ok (by rfl) (by rfl) le)
    by_cases h : k < s + 1
    · rw [decide_eq_true h] at tst
      rw [decide_eq_true h]
      have e1 := times_ok (ff_sz v k) (u_sz v (i := s - k) (by omega))
      have ix : dIx (.lst (rds (u (ff L)) (s + 1))) (.int (((s + 1 : Nat) : Int) - ((k + 1 : Nat) : Int))) = .ok (rd (u (ff L) (s - k))) := ix_lst (by omega) (by omega)
      have ea : eOpV dIx 2 (eOp dSub (eV 3) (eV 4)) (NS L N s (.pu (.int ((s + 1 : Nat) : Int))) (.pu (.int ((k + 1 : Nat) : Int))) (.pu (rd (ff L k)))) = .ok (rd (u (ff L) (s - k)), NS L N s (.pu (.int ((s + 1 : Nat) : Int))) (.pu (.int ((k + 1 : Nat) : Int))) (.pu (rd (ff L k)))) := by
        have g1 : getAny (NS L N s (.pu (.int ((s + 1 : Nat) : Int))) (.pu (.int ((k + 1 : Nat) : Int))) (.pu (rd (ff L k)))) 2 = .ok (.lst (rds (u (ff L)) (s + 1))) := rfl
        have g2 : eOp dSub (eV 3) (eV 4) (NS L N s (.pu (.int ((s + 1 : Nat) : Int))) (.pu (.int ((k + 1 : Nat) : Int))) (.pu (rd (ff L k)))) = .ok (.int (((s + 1 : Nat) : Int) - ((k + 1 : Nat) : Int)), NS L N s (.pu (.int ((s + 1 : Nat) : Int))) (.pu (.int ((k + 1 : Nat) : Int))) (.pu (rd (ff L k)))) := rfl
        simp only [eOpV, g1, g2, ix, Res.bind_ok]
      exact blk_yes tg tst (eCB_ok (aCons_ok (by rfl) (aCons_ok ea aNil_ok)) e1) rfl
    · rw [decide_eq_false h] at tst
      rw [decide_eq_false h]
      exact blk_no tg tst rfl
  rw [filter_le] at cm
  have to := total_ok (g := fun k => ff L k * u (ff L) (s - k)) (m := min L.length (s + 1)) (x := .lst ((List.range (min L.length (s + 1))).map fun k => rd (ff L k * u (ff L) (s - k)))) rfl
    (fun i hi => (Q.sm v.b1 i fun k hk => t_q v hs (by omega)).sz v.b2 (by omega) (p31' (by omega) (by omega)))
    (fun i hi => (t_q v hs (by omega)).sz v.b2 (by omega) (Nat.le_trans (p31 (by omega)) (by decide)))
  have su : sm (fun k => ff L k * u (ff L) (s - k)) (min L.length (s + 1)) = u (ff L) (s + 1) := by
    rw [u_succ]
    refine (sm_ext (by omega) fun k hk hk2 => ?_).symm
    rw [ff_out (by omega)]
    grind
  rw [su] at to
  refine sAppend_ok (ds := rds (u (ff L)) (s + 1)) (es := rds (u (ff L)) (s + 1)) rfl (eCB_ok (aCons_ok (eL_ok cm) aNil_ok) to) rfl (by rw [rds_len]; omega) ?_
  have r : rds (u (ff L)) (s + 1) ++ [rd (u (ff L) (s + 1))] = rds (u (ff L)) (s + 1 + 1) := (rds_succ _ _).symm
  rw [r]
  rfl
theorem news_loop (v : Lv L B) (N : Nat) : ∀ (k s : Nat) (j : Slot), s + k ≤ 30 → ∃ j', forF T1_news_in B1_news_in ((List.range' s k).map fun i : Nat => D.int ((1 + i : Nat) : Int)) (NS L N s j .em .em) = .nx (NS L N (s + k) j' .em .em)
  | 0, s, j, _ => ⟨j, rfl⟩
  | k + 1, s, j, h => by
    obtain ⟨j', e⟩ := news_loop v N k (s + 1) (.pu (.int ((s + 1 : Nat) : Int))) (by omega)
    refine ⟨j', ?_⟩
    have t1 : T1_news_in (.int ((1 + s : Nat) : Int)) (NS L N s j .em .em) = .ok (NS L N s (.pu (.int ((s + 1 : Nat) : Int))) .em .em) := by rw [Nat.add_comm 1 s]; rfl
    rw [List.range'_succ, List.map_cons]
    simp only [forF, t1, Res.ne, news_turn v (N := N) (show s + 1 ≤ 30 by omega), e]
    rw [show s + 1 + k = s + (k + 1) by omega]
theorem news_ok (v : Lv L B) {N : Nat} (hN : N ≤ 30) : g_news_in [lv L, .int (N : Int)] = .ok (.lst (rds (u (ff L)) (N + 1))) := by
  obtain ⟨j', e⟩ := news_loop v N N 0 .em (by omega)
  have src : S1_news_in (NS L N 0 .em .em .em) = .ok ((List.range N).map fun t : Nat => D.int ((1 + t : Nat) : Int), NS L N 0 .em .em .em) :=
    iCall_ok (g := fRange) (fs := aCons (eC (.int 1)) (aCons (eOp dAdd (eV 1) (eC (.int 1))) aNil)) (ds := [.int 1, .int ((N : Int) + 1)]) (by rfl) (fRange2 (a := 1) (k := N) rfl (by omega) (by omega))
  rw [← List.range_eq_range', Nat.zero_add] at e
  have st : startE 6 [lv L, .int (N : Int)] = [.pu (lv L), .pu (.int (N : Int)), .em, .em, .em, .em] := rfl
  show outRes (b_news_in (startE 6 [lv L, .int (N : Int)])) = _
  rw [st]
  unfold b_news_in
  refine out_seq (ε1 := NS L N 0 .em .em .em) (by rfl) ?_
  refine out_seq (ε1 := NS L N N j' .em .em) (sFor_ok src e) ?_
  exact out_ret (d := .lst (rds (u (ff L)) (N + 1))) (ε1 := [.pu (lv L), .pu (.int (N : Int)), .pu (.lst (rds (u (ff L)) (N + 1))), j', .em, .em]) rfl
theorem tail_eq (v : Lv L B) {a : Nat} (h : a ≤ L.length) : sm (fun i => ff L (a + i)) (L.length - a) = G (ff L) a := by
  have e := sm_split (ff L) a (L.length - a)
  rw [show a + (L.length - a) = L.length by omega, v.sum] at e
  rw [G_eq]
  grind
theorem longer_ok (v : Lv L B) : g_longer_in [lv L] = .ok (.lst (rds (G (ff L)) L.length)) := by
  have n12 := v.l2
  have src : CS1_longer_in [.pu (lv L), .em] = .ok ((List.range L.length).map fun t : Nat => D.int (t : Int), [.pu (lv L), .em]) :=
    iCall_ok (g := fRange) (fs := aCons (eCB fLen (aCons (eV 0) aNil)) aNil) (ds := [.int (L.length : Int)]) (by
      have : fLen [lv L] = .ok (.int (L.length : Int)) := by show Res.ok (D.int ((rds (ff L) L.length).length : Int)) = _; rw [rds_len]
      exact aCons_ok (eCB_ok (by rfl) this) aNil_ok) (fRange1 rfl (by omega))
  have cm : eComp [1] CS1_longer_in CT1_longer_in CP1_longer_in CE1_longer_in [.pu (lv L), .em] = .ok ((List.range L.length).map fun a => rd (G (ff L) a), [.pu (lv L), .em]) :=
    comp_all (fun t : Nat => D.int (t : Int)) (fun a => rd (G (ff L) a)) src (by omega) rfl fun a ha => by
      have to := total_ok (g := fun i => ff L (a + i)) (m := L.length - a) (x := .tup ((rds (ff L) L.length).drop a)) (by rw [rds_drop]) (fun i hi => by
        have : Q B (sm (fun i => ff L (a + i)) i) 1 (i * 1) := Q.sm v.b1 i fun k _ => ff_q v (a + k)
        exact this.sz v.b2 (by omega) (Nat.le_trans (show i * 1 ≤ 12 by omega) (by decide))) (fun i _ => ff_sz v (a + i))
      rw [tail_eq v (by omega)] at to
      have sl : eSl (eV 0) (oS (eV 1)) oN [.pu (lv L), .pu (.int (a : Int))] = .ok (.tup ((rds (ff L) L.length).drop a), [.pu (lv L), .pu (.int (a : Int))]) := by
        have d1 : dSl (lv L) (some (a : Int)) none = .ok (.tup ((rds (ff L) L.length).drop a)) := by
          show Res.ok (D.tup (cutD (rds (ff L) L.length) (some (a : Int)) none)) = _
          rw [cutD_drop]
        have v0 : eV 0 [.pu (lv L), .pu (.int (a : Int))] = .ok (lv L, [.pu (lv L), .pu (.int (a : Int))]) := rfl
        have v1 : eV 1 [.pu (lv L), .pu (.int (a : Int))] = .ok (.int (a : Int), [.pu (lv L), .pu (.int (a : Int))]) := rfl
        simp only [eSl, v0, oS, v1, asI, oN, Res.bind_ok, d1]
      exact blk_yes (ε1 := [.pu (lv L), .pu (.int (a : Int))]) rfl rfl (eCB_ok (aCons_ok sl aNil_ok) to) rfl
  show outRes (b_longer_in (startE 2 [lv L])) = _
  have st : startE 2 [lv L] = [.pu (lv L), .em] := rfl
  rw [st]
  unfold b_longer_in
  exact out_retL cm
theorem mn_sz (v : Lv L B) : Sz (mn L) := (mnp_q v v.l2).sz v.b2 (by omega) (by decide)
theorem mnt_q (v : Lv L B) {k : Nat} (h : k < 12) : Q B (((k + 1 : Nat) : Rat) * ff L k) 1 12 := by
  have := Q.mul (Q.nat (B := B) (e := 0) (k + 1) v.b1) (ff_q v k)
  rw [Nat.zero_add, Nat.mul_one] at this
  exact this.mono (by omega)
theorem nat_sz {k : Nat} (h : k ≤ 1000) : Sz ((k : Nat) : Rat) := (Bd.nat k).sz (by decide) (Nat.lt_of_le_of_lt h (by decide))
theorem mean_ok (v : Lv L B) : g_mean_in [lv L] = .ok (rd (mn L)) := by
  have n12 := v.l2
  have src : CS1_mean_in [.pu (lv L), .em, .em] = .ok ((List.range L.length).map fun k => .tup [.int ((k + 1 : Nat) : Int), rd (ff L k)], [.pu (lv L), .em, .em]) := by
    rw [← enum_rds]
    rfl
  have cm : eComp [1, 2] CS1_mean_in CT1_mean_in CP1_mean_in CE1_mean_in [.pu (lv L), .em, .em] = .ok ((List.range L.length).map fun k => rd (((k + 1 : Nat) : Rat) * ff L k), [.pu (lv L), .em, .em]) :=
    comp_all _ (fun k => rd (((k + 1 : Nat) : Rat) * ff L k)) src (by omega) rfl fun k hk => by
      have e1 := times_ok (nat_sz (k := k + 1) (by omega)) (ff_sz v k)
      rw [rd_nat] at e1
      exact blk_yes (ε1 := [.pu (lv L), .pu (.int ((k + 1 : Nat) : Int)), .pu (rd (ff L k))]) rfl rfl (eCB_ok (by rfl) e1) rfl
  have to := total_ok (g := fun k => ((k + 1 : Nat) : Rat) * ff L k) (m := L.length) (x := .lst ((List.range L.length).map fun k => rd (((k + 1 : Nat) : Rat) * ff L k))) rfl
    (fun i hi => (mnp_q v (by omega)).sz v.b2 (by omega) (by decide)) (fun i hi => (mnt_q v (by omega)).sz v.b2 (by omega) (by decide))
  show outRes (b_mean_in (startE 3 [lv L])) = _
  have st : startE 3 [lv L] = [.pu (lv L), .em, .em] := rfl
  rw [st]
  unfold b_mean_in
  exact out_ret (eCB_ok (aCons_ok (eL_ok cm) aNil_ok) to)
theorem drop_ok {f : Ev → Res (D × Ev)} {ε ε1 : Ev} {d : D} (h : f ε = .ok (d, ε1)) : sDrop f ε = .nx ε1 := by simp only [sDrop, h, Res.out]
theorem new_ok (v : Lv L B) {N : Nat} (hN : N ≤ 30) : g_new_chances [lv L, .int (N : Int)] = .ok (.tup (rds (u (ff L)) (N + 1))) := by
  have n := need_both_ok v hN
  have w := news_ok v hN
  have st : startE 2 [lv L, .int (N : Int)] = [.pu (lv L), .pu (.int (N : Int))] := rfl
  show outRes (b_new_chances (startE 2 [lv L, .int (N : Int)])) = _
  rw [st]
  unfold b_new_chances
  refine out_seq (drop_ok (eCB_ok (by rfl) n)) ?_
  exact out_ret (eCB_ok (aCons_ok (eCB_ok (by rfl) w) aNil_ok) rfl)
/-- the sum of the new ones from 1 on -/
def cn (L : List Rat) (N : Nat) : Rat := sm (fun i => u (ff L) (1 + i)) N
theorem cnt_q (v : Lv L B) {i : Nat} (h : 1 + i ≤ 30) : Q B (u (ff L) (1 + i)) 30 (31 ^ 30) := ((u_q v (1 + i) h).up v.b1 h).mono (Nat.pow_le_pow_right (by decide) h)
theorem cn_sz (v : Lv L B) {N : Nat} (h : N ≤ 30) : Sz (cn L N) := (Q.sm v.b1 N fun k hk => cnt_q v (by omega)).sz v.b2 (by omega) (p31' (by omega) (by omega))
theorem count_ok (v : Lv L B) {N : Nat} (hN : N ≤ 30) : g_count_new [lv L, .int (N : Int)] = .ok (rd (cn L N)) := by
  have n := need_both_ok v hN
  have w := news_ok v hN
  have to := total_ok (g := fun i => u (ff L) (1 + i)) (m := N) (x := .lst ((rds (u (ff L)) (N + 1)).drop 1)) (by rw [rds_drop]; rfl) (fun i hi => cn_sz v (by omega)) (fun i hi => u_sz v (by omega))
  have st : startE 2 [lv L, .int (N : Int)] = [.pu (lv L), .pu (.int (N : Int))] := rfl
  have sl : eSl (eCB g_news_in (aCons (eV 0) (aCons (eV 1) aNil))) (oS (eC (.int 1))) oN [.pu (lv L), .pu (.int (N : Int))] = .ok (.lst ((rds (u (ff L)) (N + 1)).drop 1), [.pu (lv L), .pu (.int (N : Int))]) := by
    have d1 : dSl (.lst (rds (u (ff L)) (N + 1))) (some 1) none = .ok (.lst ((rds (u (ff L)) (N + 1)).drop 1)) := by
      show Res.ok (D.lst (cutD (rds (u (ff L)) (N + 1)) (some ((1 : Nat) : Int)) none)) = _
      rw [cutD_drop]
    have v0 : eCB g_news_in (aCons (eV 0) (aCons (eV 1) aNil)) [.pu (lv L), .pu (.int (N : Int))] = .ok (.lst (rds (u (ff L)) (N + 1)), [.pu (lv L), .pu (.int (N : Int))]) := eCB_ok (by rfl) w
    simp only [eSl, v0, oS, eC, asI, oN, Res.bind_ok, d1]
  show outRes (b_count_new (startE 2 [lv L, .int (N : Int)])) = _
  rw [st]
  unfold b_count_new
  refine out_seq (drop_ok (eCB_ok (by rfl) n)) ?_
  exact out_ret (eCB_ok (aCons_ok sl aNil_ok) to)
theorem mean_life_ok (v : Lv L B) : g_mean_life [lv L] = .ok (rd (mn L)) := by
  have n := need_lives_ok v
  have w := mean_ok v
  have st : startE 1 [lv L] = [.pu (lv L)] := rfl
  show outRes (b_mean_life (startE 1 [lv L])) = _
  rw [st]
  unfold b_mean_life
  refine out_seq (drop_ok (eCB_ok (by rfl) n)) ?_
  exact out_ret (eCB_ok (by rfl) w)
/-- an age's chance -/
def ag (L : List Rat) (N a : Nat) : Rat := if a ≤ N then u (ff L) (N - a) * G (ff L) a else 0
theorem G_sz (v : Lv L B) {a : Nat} (h : a ≤ 100) : Sz (G (ff L) a) := (G_q v a).sz v.b2 (by omega) (Nat.le_trans (show a + 1 ≤ 101 by omega) (by decide))
theorem ages_ok (v : Lv L B) {N : Nat} (hN : N ≤ 30) : g_ages_at [lv L, .int (N : Int)] = .ok (.tup (rds (ag L N) L.length)) := by
  have n12 := v.l2
  have n := need_both_ok v hN
  have w := news_ok v hN
  have lo := longer_ok v
  let X : Slot → Slot → Ev := fun k p => [.pu (lv L), .pu (.int (N : Int)), .pu (.lst (rds (u (ff L)) (N + 1))), .pu (.lst (rds (G (ff L)) L.length)), k, p]
  have src : CS1_ages_at (X .em .em) = .ok ((List.range L.length).map fun k => .tup [.int ((k + 0 : Nat) : Int), rd (G (ff L) k)], X .em .em) := by
    rw [← enum_rds]
    rfl
  have cm : eComp [4, 5] CS1_ages_at CT1_ages_at CP1_ages_at CE1_ages_at (X .em .em) = .ok ((List.range L.length).map fun a => rd (ag L N a), X .em .em) :=
    comp_all _ (fun a => rd (ag L N a)) src (by omega) rfl fun a ha => by
      have le : dLe (.int ((a + 0 : Nat) : Int)) (.int (N : Int)) = .ok (.bl (decide (a ≤ N))) := by
        show Res.ok (D.bl (decide (((a + 0 : Nat) : Int) ≤ (N : Int)))) = _
        congr 2
        exact decide_eq_decide.mpr (by omega)
      refine blk_yes (ε1 := X (.pu (.int ((a + 0 : Nat) : Int))) (.pu (rd (G (ff L) a)))) (ε3 := X (.pu (.int ((a + 0 : Nat) : Int))) (.pu (rd (G (ff L) a)))) rfl rfl ?_ rfl
      have tst : bOf (eOp dLe (eV 4) (eV 1)) (X (.pu (.int ((a + 0 : Nat) : Int))) (.pu (rd (G (ff L) a)))) = .ok (decide (a ≤ N), X (.pu (.int ((a + 0 : Nat) : Int))) (.pu (rd (G (ff L) a)))) := bOf_ok (eOp_ok (by rfl) (by rfl) le)
      unfold ag
      by_cases h : a ≤ N
      · rw [decide_eq_true h] at tst
        rw [if_pos h]
        have e1 := times_ok (u_sz v (i := N - a) (by omega)) (G_sz v (a := a) (by omega))
        have ix : dIx (.lst (rds (u (ff L)) (N + 1))) (.int ((N : Int) - ((a + 0 : Nat) : Int))) = .ok (rd (u (ff L) (N - a))) := ix_lst (by omega) (by omega)
        exact eIf_t tst (eCB_ok (aCons_ok (eOp_ok (by rfl) (by rfl) ix) (by rfl)) e1)
      · rw [decide_eq_false h] at tst
        rw [if_neg h]
        exact eIf_f tst rfl
  have st : startE 6 [lv L, .int (N : Int)] = [.pu (lv L), .pu (.int (N : Int)), .em, .em, .em, .em] := rfl
  show outRes (b_ages_at (startE 6 [lv L, .int (N : Int)])) = _
  rw [st]
  unfold b_ages_at
  refine out_seq (drop_ok (eCB_ok (by rfl) n)) ?_
  refine out_seq (sTg_ok (eCB_ok (by rfl) w) rfl) ?_
  refine out_seq (ε1 := X .em .em) (sTg_ok (eCB_ok (by rfl) lo) rfl) ?_
  exact out_ret (eCB_ok (aCons_ok (eL_ok cm) aNil_ok) rfl)
theorem long_ok (v : Lv L B) : g_long_ages [lv L] = .ok (.tup (rds (fun a => G (ff L) a / mn L) L.length)) := by
  have n12 := v.l2
  have n := need_lives_ok v
  have w := mean_ok v
  have lo := longer_ok v
  let X : Slot → Ev := fun k => [.pu (lv L), .pu (rd (mn L)), k]
  have src : CS1_long_ages (X .em) = .ok ((List.range L.length).map fun k => rd (G (ff L) k), X .em) := by
    have c : eCB g_longer_in (aCons (eV 0) aNil) (X .em) = .ok (.lst (rds (G (ff L)) L.length), X .em) := eCB_ok (by rfl) lo
    simp only [CS1_long_ages, iSeq, c, Res.bind_ok, dSeq]
    rfl
  have cm : eComp [2] CS1_long_ages CT1_long_ages CP1_long_ages CE1_long_ages (X .em) = .ok ((List.range L.length).map fun a => rd (G (ff L) a / mn L), X .em) :=
    comp_all _ (fun a => rd (G (ff L) a / mn L)) src (by omega) rfl fun a ha =>
      blk_yes (ε1 := X (.pu (rd (G (ff L) a)))) rfl rfl (eCB_ok (by rfl) (quot_ok (G_sz v (by omega)) (mn_sz v) (num_pos (mn_pos v)))) rfl
  have st : startE 3 [lv L] = [.pu (lv L), .em, .em] := rfl
  show outRes (b_long_ages (startE 3 [lv L])) = _
  rw [st]
  unfold b_long_ages
  refine out_seq (drop_ok (eCB_ok (by rfl) n)) ?_
  refine out_seq (ε1 := X .em) (sTg_ok (eCB_ok (by rfl) w) rfl) ?_
  exact out_ret (eCB_ok (aCons_ok (eL_ok cm) aNil_ok) rfl)
end
end W64
namespace W64
open PySem L2 PL
theorem sSetIx_ok {i j : Nat} {k : Int} {fe fi : Ev → Res (D × Ev)} {ε ε1 ε2 ε3 : Ev} {d : D} {ds es : List D} (h : fe ε = .ok (d, ε1)) (h0 : getOw ε1 i = .ok es) (h1 : fi ε1 = .ok (.int k, ε2)) (h2 : getOw ε2 i = .ok ds) (h3 : L2.ixN ds.length k = some j) (h4 : ε2.set i (.ow (ds.set j d)) = ε3) : sSetIx i fe fi ε = .nx ε3 := by
  simp only [sSetIx, h, h0, h1, h2, h3, h4, Res.out]
section
variable {L : List Rat} {B : Nat}
theorem rds_set {g : Nat → Rat} {m i : Nat} {q : Rat} (h : i < m) : (rds g m).set i (rd q) = rds (fun k => if k = i then q else g k) m := by
  refine List.ext_getElem? fun j => ?_
  by_cases hj : j < m
  · rw [rds_get hj]
    by_cases e : j = i
    · subst e
      rw [List.getElem?_set_self (by rw [rds_len]; exact hj), if_pos rfl]
    · rw [List.getElem?_set_ne (fun z => e z.symm), rds_get hj, if_neg e]
  · rw [List.getElem?_eq_none (by rw [List.length_set, rds_len]; omega), List.getElem?_eq_none (by rw [rds_len]; omega)]
def Y (L : List Rat) (N : Nat) (x2 x3 x4 : Slot) (l : Nat → Rat) (at' : Nat) (c : Rat) (x8 x9 : Slot) : Ev := [.pu (lv L), .pu (.int (N : Int)), x2, x3, x4, .ow (rds l (N + 1)), .pu (.int (at' : Int)), .pu (rd c), x8, x9, .em, .em]
theorem in_turn (v : Lv L B) {N : Nat} {x2 x3 x4 : Slot} {l : Nat → Rat} {a : Nat} {c : Rat} {k : Nat} (hc : 0 ≤ c) (sc : Sz c) (sl : ∀ i, i ≤ N → Sz (l i)) (sp : a + k + 1 ≤ N → Sz (c * ff L k)) :
    B1__law_news (Y L N x2 x3 x4 l a c (.pu (.int (k : Int))) (.pu (rd (ff L k)))) = .nx (Y L N x2 x3 x4 (fun i => if i = a + k + 1 then l i + c * ff L k else l i) a c (.pu (.int (k : Int))) (.pu (rd (ff L k)))) := by
  let E := Y L N x2 x3 x4 l a c (.pu (.int (k : Int))) (.pu (rd (ff L k)))
  have g1 : dGt (.int c.num) (.int 0) = .ok (.bl (decide (0 < c.num))) := rfl
  have c1 : bOf (eOp dGt (eOp dIx (eV 7) (eC (.int 0))) (eC (.int 0))) E = .ok (decide (0 < c.num), E) := bOf_ok (eOp_ok (eOp_ok (by rfl) (by rfl) (show dIx (rd c) (.int 0) = .ok (.int c.num) from rfl)) (by rfl) g1)
  have ad : eOp dAdd (eOp dAdd (eV 6) (eV 8)) (eC (.int 1)) E = .ok (.int ((a : Int) + (k : Int) + 1), E) := rfl
  have g2 : dLe (.int ((a : Int) + (k : Int) + 1)) (.int (N : Int)) = .ok (.bl (decide (a + k + 1 ≤ N))) := by
    show Res.ok (D.bl (decide ((a : Int) + (k : Int) + 1 ≤ (N : Int)))) = _
    congr 2
    exact decide_eq_decide.mpr (by omega)
  have c2 : bOf (eOp dLe (eOp dAdd (eOp dAdd (eV 6) (eV 8)) (eC (.int 1))) (eV 1)) E = .ok (decide (a + k + 1 ≤ N), E) := bOf_ok (eOp_ok ad (by rfl) g2)
  show B1__law_news E = _
  by_cases h1 : 0 < c.num
  · by_cases h2 : a + k + 1 ≤ N
    · rw [decide_eq_true h1] at c1
      rw [decide_eq_true h2] at c2
      have cc : bAnd (bOf (eOp dGt (eOp dIx (eV 7) (eC (.int 0))) (eC (.int 0)))) (bOf (eOp dLe (eOp dAdd (eOp dAdd (eV 6) (eV 8)) (eC (.int 1))) (eV 1))) E = .ok (true, E) := by
        simp only [bAnd, c1, c2, Res.bind_ok, if_true]
      refine sIf_t cc ?_
      have ix : dIx (.lst (rds l (N + 1))) (.int ((a : Int) + (k : Int) + 1)) = .ok (rd (l (a + k + 1))) := ix_lst (by omega) (by omega)
      have e1 : eOpV dIx 5 (eOp dAdd (eOp dAdd (eV 6) (eV 8)) (eC (.int 1))) E = .ok (rd (l (a + k + 1)), E) := by
        have ga : getAny E 5 = .ok (.lst (rds l (N + 1))) := rfl
        simp only [eOpV, ga, ad, ix, Res.bind_ok]
      have e2 : eCB g__law_times (aCons (eV 7) (aCons (eV 9) aNil)) E = .ok (rd (c * ff L k), E) := eCB_ok (by rfl) (ltimes_ok sc (ff_sz v k))
      have e3 := eCB_ok (aCons_ok e1 (aCons_ok e2 aNil_ok)) (lplus_ok (sl (a + k + 1) h2) (sp h2))
      have go : getOw E 5 = .ok (rds l (N + 1)) := rfl
      have xi : L2.ixN (rds l (N + 1)).length ((a : Int) + (k : Int) + 1) = some (a + k + 1) := by
        rw [rds_len, s_ixN, if_pos (by omega), if_pos (by omega)]
        congr 1
      have r : (rds l (N + 1)).set (a + k + 1) (rd (l (a + k + 1) + c * ff L k)) = rds (fun i => if i = a + k + 1 then l i + c * ff L k else l i) (N + 1) := by
        rw [rds_set (by omega)]
        exact rds_cong fun i _ => by
          split
          · rename_i h; rw [h]
          · rfl
      exact sSetIx_ok e3 go ad go xi (by rw [r]; rfl)
    · rw [decide_eq_true h1] at c1
      rw [decide_eq_false h2] at c2
      have cc : bAnd (bOf (eOp dGt (eOp dIx (eV 7) (eC (.int 0))) (eC (.int 0)))) (bOf (eOp dLe (eOp dAdd (eOp dAdd (eV 6) (eV 8)) (eC (.int 1))) (eV 1))) E = .ok (false, E) := by
        simp only [bAnd, c1, c2, Res.bind_ok, if_true]
      have r : rds (fun i => if i = a + k + 1 then l i + c * ff L k else l i) (N + 1) = rds l (N + 1) := rds_cong fun i hi => by rw [if_neg (by omega)]
      unfold Y
      rw [r]
      exact sIf_f cc rfl
  · rw [decide_eq_false h1] at c1
    have cc : bAnd (bOf (eOp dGt (eOp dIx (eV 7) (eC (.int 0))) (eC (.int 0)))) (bOf (eOp dLe (eOp dAdd (eOp dAdd (eV 6) (eV 8)) (eC (.int 1))) (eV 1))) E = .ok (false, E) := by
      simp only [bAnd, c1, Res.bind_ok, if_false, Bool.false_eq_true]
    have z : c = 0 := by
      have n := Rat.num_nonneg.mpr hc
      have n2 : ¬ 0 < c := fun w => h1 (num_pos w)
      grind
    have r : rds (fun i => if i = a + k + 1 then l i + c * ff L k else l i) (N + 1) = rds l (N + 1) := rds_cong fun i hi => by
      rw [z]
      split <;> grind
    unfold Y
    rw [r]
    exact sIf_f cc rfl
/-- later, behind so many parts -/
def IL (L : List Rat) (l : Nat → Rat) (a : Nat) (c : Rat) (t i : Nat) : Rat := if a < i ∧ i < a + 1 + t then l i + c * ff L (i - 1 - a) else l i
theorem in_loop (v : Lv L B) {N : Nat} {x2 x3 x4 : Slot} {l : Nat → Rat} {a : Nat} {c : Rat} (hc : 0 ≤ c) (sc : Sz c) (sl : ∀ i, i ≤ N → Sz (l i)) (sl2 : ∀ i, i ≤ N → a < i → Sz (l i + c * ff L (i - 1 - a))) (sp : ∀ k, a + k + 1 ≤ N → Sz (c * ff L k)) : ∀ (m t : Nat) (x8 x9 : Slot), ∃ y8 y9,
    forF T1__law_news B1__law_news ((List.range' t m).map fun k => .tup [.int ((k + 0 : Nat) : Int), rd (ff L k)]) (Y L N x2 x3 x4 (IL L l a c t) a c x8 x9) = .nx (Y L N x2 x3 x4 (IL L l a c (t + m)) a c y8 y9)
  | 0, t, x8, x9 => ⟨x8, x9, rfl⟩
  | m + 1, t, x8, x9 => by
    obtain ⟨y8, y9, e⟩ := in_loop v (x2 := x2) (x3 := x3) (x4 := x4) hc sc sl sl2 sp m (t + 1) (.pu (.int (t : Int))) (.pu (rd (ff L t)))
    refine ⟨y8, y9, ?_⟩
    have t1 : T1__law_news (.tup [.int ((t + 0 : Nat) : Int), rd (ff L t)]) (Y L N x2 x3 x4 (IL L l a c t) a c x8 x9) = .ok (Y L N x2 x3 x4 (IL L l a c t) a c (.pu (.int (t : Int))) (.pu (rd (ff L t)))) := rfl
    have sz : ∀ i, i ≤ N → Sz (IL L l a c t i) := fun i hi => by
      unfold IL
      split
      · rename_i h; exact sl2 i hi h.1
      · exact sl i hi
    have b1 := in_turn v (x2 := x2) (x3 := x3) (x4 := x4) (l := IL L l a c t) (a := a) (k := t) hc sc sz (sp t)
    have f : (fun i => if i = a + t + 1 then IL L l a c t i + c * ff L t else IL L l a c t i) = IL L l a c (t + 1) := by
      funext i
      unfold IL
      by_cases h : i = a + t + 1
      · subst h
        rw [if_pos rfl, if_neg (by omega), if_pos (by omega), show a + t + 1 - 1 - a = t by omega]
      · rw [if_neg h]
        by_cases h2 : a < i ∧ i < a + 1 + t
        · rw [if_pos h2, if_pos (by omega)]
        · rw [if_neg h2, if_neg (by omega)]
    rw [f] at b1
    rw [List.range'_succ, List.map_cons]
    simp only [forF, t1, Res.ne, b1, e]
    rw [show t + 1 + m = t + (m + 1) by omega]
/-- later, behind so many of the sums -/
def OL (L : List Rat) (s : Nat → Rat) (A i : Nat) : Rat := sm (fun a => if a < i then s a * ff L (i - 1 - a) else 0) A
theorem ol_q (v : Lv L B) {s : Nat → Rat} {N : Nat} (hN : N ≤ 30) (hs : ∀ a, a ≤ N → Q B (s a) a (31 ^ a)) {A i : Nat} (hi : i ≤ N) (hA : A ≤ N + 1) : Q B (OL L s A i) i (A * 31 ^ i) :=
  Q.sm v.b1 A fun k hk => by
    split
    · rename_i h
      have b := Q.mul (hs k (by omega)) (ff_q v (i - 1 - k))
      rw [Nat.mul_one] at b
      exact (b.up v.b1 (by omega)).mono (Nat.pow_le_pow_right (by decide) (by omega))
    · exact (Q.zero v.b1).mono (Nat.zero_le _)
theorem ol_sz (v : Lv L B) {s : Nat → Rat} {N : Nat} (hN : N ≤ 30) (hs : ∀ a, a ≤ N → Q B (s a) a (31 ^ a)) {A i : Nat} (hi : i ≤ N) (hA : A ≤ N + 1) : Sz (OL L s A i) := (ol_q v hN hs hi hA).sz v.b2 (by omega) (p31' (by omega) (by omega))
theorem ol_end {s : Nat → Rat} {N i : Nat} (hi : i ≤ N) : OL L s (N + 1) i = nx (ff L) s i := by
  unfold OL nx
  rw [sm_ext (a := i) (by omega) fun k hk _ => by rw [if_neg (by omega)]]
  exact sm_cong _ fun k hk => by rw [if_pos hk]
def Z (L : List Rat) (N : Nat) (s : Nat → Rat) (x3 x4 : Slot) (l : Nat → Rat) (x6 x7 x8 x9 : Slot) : Ev := [.pu (lv L), .pu (.int (N : Int)), .pu (.lst (rds s (N + 1))), x3, x4, .ow (rds l (N + 1)), x6, x7, x8, x9, .em, .em]
theorem out_loop (v : Lv L B) {s : Nat → Rat} {N : Nat} (hN : N ≤ 30) (hs : ∀ a, a ≤ N → Q B (s a) a (31 ^ a)) (nn : ∀ a, 0 ≤ s a) {x3 x4 : Slot} : ∀ (m A : Nat) (x6 x7 x8 x9 : Slot), A + m ≤ N + 1 → ∃ y6 y7 y8 y9,
    forF T2__law_news B2__law_news ((List.range' A m).map fun k => .tup [.int ((k + 0 : Nat) : Int), rd (s k)]) (Z L N s x3 x4 (OL L s A) x6 x7 x8 x9) = .nx (Z L N s x3 x4 (OL L s (A + m)) y6 y7 y8 y9)
  | 0, A, x6, x7, x8, x9, _ => ⟨x6, x7, x8, x9, rfl⟩
  | m + 1, A, x6, x7, x8, x9, h => by
    have n12 := v.l2
    have qs := hs A (by omega)
    have sc : Sz (s A) := qs.sz v.b2 (by omega) (Nat.le_trans (p31 (by omega)) (by decide))
    have stp : ∀ i, A < i → OL L s A i + s A * ff L (i - 1 - A) = OL L s (A + 1) i := fun i hi => by
      simp only [OL, sm]
      rw [if_pos hi]
    obtain ⟨y8, y9, e1⟩ := in_loop v (x2 := .pu (.lst (rds s (N + 1)))) (x3 := x3) (x4 := x4) (l := OL L s A) (a := A) (c := s A) (N := N) (nn A) sc (fun i hi => ol_sz v hN hs hi (by omega)) (fun i hi ha => by rw [stp i ha]; exact ol_sz v hN hs hi (by omega))
      (fun k hk => by
        have b := Q.mul qs (ff_q v k)
        rw [Nat.mul_one] at b
        exact b.sz v.b2 (by omega) (Nat.le_trans (p31 (by omega)) (by decide))) L.length 0 x8 x9
    obtain ⟨z6, z7, z8, z9, e⟩ := out_loop v hN hs nn (x3 := x3) (x4 := x4) m (A + 1) (.pu (.int (A : Int))) (.pu (rd (s A))) y8 y9 (by omega)
    refine ⟨z6, z7, z8, z9, ?_⟩
    have t1 : T2__law_news (.tup [.int ((A + 0 : Nat) : Int), rd (s A)]) (Z L N s x3 x4 (OL L s A) x6 x7 x8 x9) = .ok (Y L N (.pu (.lst (rds s (N + 1)))) x3 x4 (OL L s A) A (s A) x8 x9) := rfl
    have f0 : rds (IL L (OL L s A) A (s A) 0) (N + 1) = rds (OL L s A) (N + 1) := rds_cong fun i _ => by
      unfold IL
      rw [if_neg (by omega)]
    have f1 : rds (IL L (OL L s A) A (s A) (0 + L.length)) (N + 1) = rds (OL L s (A + 1)) (N + 1) := rds_cong fun i _ => by
      unfold IL
      by_cases h1 : A < i
      · rw [← stp i h1]
        by_cases h2 : i < A + 1 + (0 + L.length)
        · rw [if_pos ⟨h1, h2⟩]
        · rw [if_neg (by omega), ff_out (by omega)]
          grind
      · rw [if_neg (by omega)]
        simp only [OL, sm]
        rw [if_neg h1]
        grind
    have src : S1__law_news (Y L N (.pu (.lst (rds s (N + 1)))) x3 x4 (OL L s A) A (s A) x8 x9) = .ok ((List.range L.length).map fun k => .tup [.int ((k + 0 : Nat) : Int), rd (ff L k)], Y L N (.pu (.lst (rds s (N + 1)))) x3 x4 (OL L s A) A (s A) x8 x9) := by
      rw [← enum_rds]
      rfl
    have b1 : B2__law_news (Y L N (.pu (.lst (rds s (N + 1)))) x3 x4 (OL L s A) A (s A) x8 x9) = .nx (Z L N s x3 x4 (OL L s (A + 1)) (.pu (.int (A : Int))) (.pu (rd (s A))) y8 y9) := by
      refine sFor_ok src ?_
      unfold Y at e1 ⊢
      rw [f0, f1, ← List.range_eq_range'] at e1
      exact e1
    rw [List.range'_succ, List.map_cons]
    simp only [forF, t1, Res.ne, b1, e]
    rw [show A + 1 + m = A + (m + 1) by omega]
theorem rds_cons (g : Nat → Rat) (m : Nat) : rds g (m + 1) = rd (g 0) :: rds (fun k => g (k + 1)) m := by
  unfold rds
  rw [List.range_succ_eq_map, List.map_cons, List.map_map]
  rfl
theorem zero_rep : ∀ N : Nat, rds (fun _ => 0) N = (List.replicate N [rd 0]).flatten
  | 0 => rfl
  | N + 1 => by
    rw [rds_cons, zero_rep N]
    rfl
theorem rep_ok {N : Nat} (h : N ≤ 31) : dRep (.lst [.tup [.int 0, .int 1]]) (.int (N : Int)) = .ok (rds (fun _ => 0) N) := by
  rw [zero_rep]
  have a : (N : Int) ≤ 1000 ∧ (-1000 : Int) ≤ (N : Int) ∧ [D.tup [.int 0, .int 1]].length ≤ 1000 := ⟨by omega, by omega, by simp⟩
  show (if (N : Int) ≤ 1000 ∧ (-1000 : Int) ≤ (N : Int) ∧ [D.tup [.int 0, .int 1]].length ≤ 1000 then Res.ok _ else _) = _
  rw [if_pos a, Int.toNat_natCast]
  rfl
theorem zip_rds (g h : Nat → Rat) : ∀ m, zipD (rds g m) (rds h m) = (List.range m).map fun k => .tup [rd (g k), rd (h k)] := by
  intro m
  induction m generalizing g h with
  | zero => rfl
  | succ m ih =>
    rw [rds_cons, rds_cons, List.range_succ_eq_map, List.map_cons, List.map_map]
    show D.tup [rd (g 0), rd (h 0)] :: zipD _ _ = _
    rw [ih]
    rfl
def X (L : List Rat) (N : Nat) (s F : Nat → Rat) (x4 x5 x6 x7 x8 x9 : Slot) : Ev := [.pu (lv L), .pu (.int (N : Int)), .pu (.lst (rds s (N + 1))), .pu (.lst (rds F (N + 1))), x4, x5, x6, x7, x8, x9, .em, .em]
theorem lnews_turn (v : Lv L B) {N : Nat} (hN : N ≤ 30) (j : Nat) (hj : j ≤ 30) (x4 x5 x6 x7 x8 x9 : Slot) : ∃ y5 y6 y7 y8 y9, B3__law_news (X L N (sj (ff L) j) (Fj (ff L) j) x4 x5 x6 x7 x8 x9) = .nx (X L N (sj (ff L) (j + 1)) (Fj (ff L) (j + 1)) x4 y5 y6 y7 y8 y9) := by
  have hs : ∀ a, a ≤ N → Q B (sj (ff L) j a) a (31 ^ a) := fun a ha => sj_q v j a (by omega)
  obtain ⟨y6, y7, y8, y9, e⟩ := out_loop v hN hs (sj_nn v j) (x3 := .pu (.lst (rds (Fj (ff L) j) (N + 1)))) (x4 := x4) (N + 1) 0 x6 x7 x8 x9 (by omega)
  rw [← List.range_eq_range', Nat.zero_add] at e
  have f0 : rds (OL L (sj (ff L) j) 0) (N + 1) = rds (fun _ => 0) (N + 1) := rds_cong fun i _ => rfl
  have f1 : rds (OL L (sj (ff L) j) (N + 1)) (N + 1) = rds (sj (ff L) (j + 1)) (N + 1) := rds_cong fun i hi => ol_end (by omega)
  unfold Z at e
  rw [f0, f1] at e
  refine ⟨.pu (.lst (rds (sj (ff L) (j + 1)) (N + 1))), y6, y7, y8, y9, ?_⟩
  have rp := rep_ok (N := N + 1) (by omega)
  have a1 : sOwn 5 (eOpN dRep (eL (aCons (eTup (aCons (eC (.int 0)) (aCons (eC (.int 1)) aNil))) aNil)) (eOp dAdd (eV 1) (eC (.int 1)))) (X L N (sj (ff L) j) (Fj (ff L) j) x4 x5 x6 x7 x8 x9) = .nx (X L N (sj (ff L) j) (Fj (ff L) j) x4 (.ow (rds (fun _ => 0) (N + 1))) x6 x7 x8 x9) :=
    sOwn_ok (ε1 := X L N (sj (ff L) j) (Fj (ff L) j) x4 x5 x6 x7 x8 x9) (eOpN_ok (by rfl) (by rfl) rp) (show 5 < 12 by decide) rfl
  have src : S2__law_news (X L N (sj (ff L) j) (Fj (ff L) j) x4 (.ow (rds (fun _ => 0) (N + 1))) x6 x7 x8 x9) = .ok ((List.range (N + 1)).map fun k => .tup [.int ((k + 0 : Nat) : Int), rd (sj (ff L) j k)], X L N (sj (ff L) j) (Fj (ff L) j) x4 (.ow (rds (fun _ => 0) (N + 1))) x6 x7 x8 x9) := by
    rw [← enum_rds]
    rfl
  have a2 : sFor S2__law_news T2__law_news B2__law_news (X L N (sj (ff L) j) (Fj (ff L) j) x4 (.ow (rds (fun _ => 0) (N + 1))) x6 x7 x8 x9) = .nx (X L N (sj (ff L) j) (Fj (ff L) j) x4 (.ow (rds (sj (ff L) (j + 1)) (N + 1))) y6 y7 y8 y9) := sFor_ok src e
  let P := X L N (sj (ff L) j) (Fj (ff L) j) x4 (.pu (.lst (rds (sj (ff L) (j + 1)) (N + 1)))) y6 y7 y8 y9
  have zs : CS1__law_news P = .ok ((List.range (N + 1)).map fun k => .tup [rd (Fj (ff L) j k), rd (sj (ff L) (j + 1) k)], P) := by
    rw [← zip_rds]
    rfl
  have cm : eComp [10, 11] CS1__law_news CT1__law_news CP1__law_news CE1__law_news P = .ok ((List.range (N + 1)).map fun i => rd (Fj (ff L) (j + 1) i), P) :=
    comp_all _ (fun i => rd (Fj (ff L) (j + 1) i)) zs (by omega) rfl fun i hi => by
      have q1 : Sz (Fj (ff L) j i) := (Fj_q v j i (by omega)).sz v.b2 (by omega) (p31' (by omega) (by omega))
      have q2 : Sz (sj (ff L) (j + 1) i) := (sj_q v (j + 1) i (by omega)).sz v.b2 (by omega) (Nat.le_trans (p31 (by omega)) (by decide))
      exact blk_yes (ε1 := [.pu (lv L), .pu (.int (N : Int)), .pu (.lst (rds (sj (ff L) j) (N + 1))), .pu (.lst (rds (Fj (ff L) j) (N + 1))), x4, .pu (.lst (rds (sj (ff L) (j + 1)) (N + 1))), y6, y7, y8, y9, .pu (rd (Fj (ff L) j i)), .pu (rd (sj (ff L) (j + 1) i))]) rfl rfl (eCB_ok (by rfl) (lplus_ok q1 q2)) rfl
  have s1 : slP (eZ 5) (X L N (sj (ff L) j) (Fj (ff L) j) x4 (.ow (rds (sj (ff L) (j + 1)) (N + 1))) y6 y7 y8 y9) = .ok (.pu (.lst (rds (sj (ff L) (j + 1)) (N + 1))), P) := rfl
  have s2 : slP (eL (eComp [10, 11] CS1__law_news CT1__law_news CP1__law_news CE1__law_news)) P = .ok (.pu (.lst (rds (Fj (ff L) (j + 1)) (N + 1))), P) := by
    simp only [slP, eL_ok cm, Res.bind_ok]
    rfl
  show (sSeq _ (sSeq _ _)) _ = _
  rw [sSeq_nx a1, sSeq_nx a2]
  simp only [sPar2, s1, s2, Res.out]
  rfl
theorem lnews_loop (v : Lv L B) {N : Nat} (hN : N ≤ 30) : ∀ (xs : List D) (j : Nat) (x4 x5 x6 x7 x8 x9 : Slot), j + xs.length ≤ 31 → ∃ y4 y5 y6 y7 y8 y9, forF T3__law_news B3__law_news xs (X L N (sj (ff L) j) (Fj (ff L) j) x4 x5 x6 x7 x8 x9) = .nx (X L N (sj (ff L) (j + xs.length)) (Fj (ff L) (j + xs.length)) y4 y5 y6 y7 y8 y9)
  | [], j, x4, x5, x6, x7, x8, x9, _ => ⟨x4, x5, x6, x7, x8, x9, rfl⟩
  | x :: xs, j, x4, x5, x6, x7, x8, x9, h => by
    rw [List.length_cons] at h
    obtain ⟨y5, y6, y7, y8, y9, e1⟩ := lnews_turn v hN j (by omega) (.pu x) x5 x6 x7 x8 x9
    obtain ⟨z4, z5, z6, z7, z8, z9, e2⟩ := lnews_loop v hN xs (j + 1) (.pu x) y5 y6 y7 y8 y9 (by omega)
    refine ⟨z4, z5, z6, z7, z8, z9, ?_⟩
    have t1 : T3__law_news x (X L N (sj (ff L) j) (Fj (ff L) j) x4 x5 x6 x7 x8 x9) = .ok (X L N (sj (ff L) j) (Fj (ff L) j) (.pu x) x5 x6 x7 x8 x9) := rfl
    simp only [forF, t1, Res.ne, e1, e2]
    rw [List.length_cons, show j + 1 + xs.length = j + (xs.length + 1) by omega]
theorem lnews_ok (v : Lv L B) {N : Nat} (hN : N ≤ 30) : g__law_news [lv L, .int (N : Int)] = .ok (.tup (rds (u (ff L)) (N + 1))) := by
  obtain ⟨y4, y5, y6, y7, y8, y9, e⟩ := lnews_loop v hN ((List.range N).map fun t : Nat => D.int (t : Int)) 0 .em .em .em .em .em .em (by simp; omega)
  have src : S3__law_news (X L N (sj (ff L) 0) (Fj (ff L) 0) .em .em .em .em .em .em) = .ok ((List.range N).map fun t : Nat => D.int (t : Int), X L N (sj (ff L) 0) (Fj (ff L) 0) .em .em .em .em .em .em) :=
    iCall_ok (g := fRange) (fs := aCons (eV 1) aNil) (ds := [.int (N : Int)]) (by rfl) (fRange1 rfl (by omega))
  rw [List.length_map, List.length_range, Nat.zero_add] at e
  have f : rds (Fj (ff L) N) (N + 1) = rds (u (ff L)) (N + 1) := rds_cong fun i hi => Fj_u (ff L) N i (by omega)
  unfold X at e
  rw [f] at e
  have i0 : dAdd (.lst [.tup [.int 1, .int 1]]) (.lst (rds (fun _ => 0) N)) = .ok (.lst (rds s0 (N + 1))) := by
    rw [rds_cons]
    show (dCat _ _).bind _ = _
    have : [D.tup [.int 1, .int 1]].length + (rds (fun _ => 0) N).length ≤ 1000000 := by rw [rds_len]; simp; omega
    simp only [dCat]
    rw [if_pos this]
    rfl
  have m0 : dMul (.lst [.tup [.int 0, .int 1]]) (.int (N : Int)) = .ok (.lst (rds (fun _ => 0) N)) := by
    show (dRep _ _).bind _ = _
    rw [rep_ok (by omega)]
    rfl
  have st : startE 12 [lv L, .int (N : Int)] = [.pu (lv L), .pu (.int (N : Int)), .em, .em, .em, .em, .em, .em, .em, .em, .em, .em] := rfl
  have ini : ∀ x2 x3 : Slot, eOp dAdd (eL (aCons (eTup (aCons (eC (.int 1)) (aCons (eC (.int 1)) aNil))) aNil)) (eOp dMul (eL (aCons (eTup (aCons (eC (.int 0)) (aCons (eC (.int 1)) aNil))) aNil)) (eV 1)) [.pu (lv L), .pu (.int (N : Int)), x2, x3, .em, .em, .em, .em, .em, .em, .em, .em] = .ok (.lst (rds s0 (N + 1)), [.pu (lv L), .pu (.int (N : Int)), x2, x3, .em, .em, .em, .em, .em, .em, .em, .em]) := fun x2 x3 =>
    eOp_ok (by rfl) (eOp_ok (by rfl) (by rfl) m0) i0
  show outRes (b__law_news (startE 12 [lv L, .int (N : Int)])) = _
  rw [st]
  unfold b__law_news
  refine out_seq (ε1 := X L N (sj (ff L) 0) (Fj (ff L) 0) .em .em .em .em .em .em) ?_ ?_
  · simp only [sPar2, slP, ini, Res.bind_ok, Res.out]
    rfl
  refine out_seq (sFor_ok src e) ?_
  exact out_ret rfl
end
end W64
namespace W64
open PySem L2 PL
theorem like_int (n : Nat) (a : Int) : g__law_like (n + 1) [.int a, .int a] = .ok (.bl true) := by
  have s : g__law_sort [.int a] = .ok (.int 2) := by rfl
  have i1 : dIn false (.int 2) (.tup [.int 4, .int 5]) = .ok (.bl false) := by rfl
  show outRes (b__law_like (g__law_like n) (startE 5 [.int a, .int a])) = _
  simp [b__law_like, s, i1, dNe_int, dEq_int]
theorem like_bl (n : Nat) (a : Bool) : g__law_like (n + 1) [.bl a, .bl a] = .ok (.bl true) := by
  have s : g__law_sort [.bl a] = .ok (.int 1) := by rfl
  have i1 : dIn false (.int 1) (.tup [.int 4, .int 5]) = .ok (.bl false) := by rfl
  have e : dEq (.bl a) (.bl a) = .ok (.bl true) := by cases a <;> rfl
  show outRes (b__law_like (g__law_like n) (startE 5 [.bl a, .bl a])) = _
  simp [b__law_like, s, i1, dNe_int, dEq_int, e]
/-- leaves are whole numbers or truth values, tuples and lists of them at most so deep -/
inductive Plain : Nat → D → Prop
  | int (n : Nat) (a : Int) : Plain (n + 1) (.int a)
  | bl (n : Nat) (a : Bool) : Plain (n + 1) (.bl a)
  | tup (n : Nat) (ds : List D) (h : ∀ d ∈ ds, Plain n d) (hl : ds.length ≤ 1000000) : Plain (n + 1) (.tup ds)
  | lst (n : Nat) (ds : List D) (h : ∀ d ∈ ds, Plain n d) (hl : ds.length ≤ 1000000) : Plain (n + 1) (.lst ds)
theorem zip_self : ∀ ds : List D, zipD ds ds = ds.map fun d => .tup [d, d]
  | [] => rfl
  | d :: ds => by simp [zipD, zip_self ds]
theorem like_all {n : Nat} {x y : D} {s3 s4 : Slot} (hs3 : slotFree [.em, .em, .em, s3, s4] 3 = true) (hs4 : slotFree [.em, .em, .em, s3, s4] 4 = true) : ∀ (ds : List D), (∀ d ∈ ds, g__law_like n [d, d] = .ok (.bl true)) → ∀ (sl : Slot),
    loopC [3, 4] (blkF [3, 4] (CT1__law_like (g__law_like n)) (CP1__law_like (g__law_like n)) (CE1__law_like (g__law_like n))) (ds.map fun d => .tup [d, d]) [.pu x, .pu y, sl, s3, s4] [] = .ok ([], [.pu x, .pu y, sl, s3, s4])
  | [], _, _ => rfl
  | d :: ds, h, sl => by
    have hd := h d List.mem_cons_self
    have t := like_all (x := x) (y := y) hs3 hs4 ds (fun e he => h e (List.mem_cons_of_mem _ he)) sl
    have q3 : slotFree [.pu x, .pu y, sl, s3, s4] 3 = true := hs3
    have q4 : slotFree [.pu x, .pu y, sl, s3, s4] 4 = true := hs4
    have no : noOw [.pu x, .pu y, sl, s3, s4] [3, 4] = true := by simp only [noOw, List.all_cons, List.all_nil, q3, q4, Bool.and_self]
    simp only [List.map_cons, loopC, no, if_true]
    have b : blkF [3, 4] (CT1__law_like (g__law_like n)) (CP1__law_like (g__law_like n)) (CE1__law_like (g__law_like n)) (.tup [d, d]) [.pu x, .pu y, sl, s3, s4] = .ok (none, [.pu x, .pu y, sl, s3, s4]) := by simp [blkF, hd]
    simp only [b, Res.ne, Res.bind_ok, accD, t]
theorem like_seq {n k : Nat} {x : D} {ds : List D} (hx : dSeq x = .ok ds) (hz : fZip [x, x] = .ok (zipD ds ds)) (hn : fLen [x] = .ok (.int (ds.length : Int))) (s : g__law_sort [x] = .ok (.int (k : Int))) (hk : k = 4 ∨ k = 5) (hl : ds.length ≤ 1000000) (ih : ∀ d ∈ ds, g__law_like n [d, d] = .ok (.bl true)) : g__law_like (n + 1) [x, x] = .ok (.bl true) := by
  have e0 : dEq (.lst []) (.lst []) = .ok (.bl true) := by rfl
  have i1 : dIn false (.int (k : Int)) (.tup [.int 4, .int 5]) = .ok (.bl true) := by
    rcases hk with rfl | rfl <;> rfl
  have k6 : ¬ (k : Int) = 6 := by omega
  have t := like_all (n := n) (x := x) (y := x) (s3 := .em) (s4 := .em) rfl rfl ds ih (.pu (.int (k : Int)))
  have src : CS1__law_like (g__law_like n) [.pu x, .pu x, .pu (.int (k : Int)), .em, .em] = .ok (zipD ds ds, [.pu x, .pu x, .pu (.int (k : Int)), .em, .em]) :=
    iCall_ok (g := fZip) (fs := aCons (eV 0) (aCons (eV 1) aNil)) (ds := [x, x]) (by simp) hz
  have cm : eComp [3, 4] (CS1__law_like (g__law_like n)) (CT1__law_like (g__law_like n)) (CP1__law_like (g__law_like n)) (CE1__law_like (g__law_like n)) [.pu x, .pu x, .pu (.int (k : Int)), .em, .em] = .ok ([], [.pu x, .pu x, .pu (.int (k : Int)), .em, .em]) := by
    unfold eComp
    rw [src, zip_self]
    simp only [Res.bind_ok, List.length_map]
    rw [if_pos hl, t]
  show outRes (b__law_like (g__law_like n) (startE 5 [x, x])) = _
  have st : startE 5 [x, x] = [.pu x, .pu x, .em, .em, .em] := rfl
  rw [st]
  unfold b__law_like
  refine out_seq (ε1 := [.pu x, .pu x, .pu (.int (k : Int)), .em, .em]) (by simp [s]) ?_
  refine out_seq (ε1 := [.pu x, .pu x, .pu (.int (k : Int)), .em, .em]) (by simp [s, dNe_int, dEq_int, k6]) ?_
  have e1 : eOp dEq (eCB fLen (aCons (eV 0) aNil)) (eCB fLen (aCons (eV 1) aNil)) [.pu x, .pu x, .pu (.int (k : Int)), .em, .em] = .ok (.bl true, [.pu x, .pu x, .pu (.int (k : Int)), .em, .em]) := by simp [hn, dEq_int, -fLen]
  have e2 : eOp dEq (eL (eComp [3, 4] (CS1__law_like (g__law_like n)) (CT1__law_like (g__law_like n)) (CP1__law_like (g__law_like n)) (CE1__law_like (g__law_like n)))) (eL aNil) [.pu x, .pu x, .pu (.int (k : Int)), .em, .em] = .ok (.bl true, [.pu x, .pu x, .pu (.int (k : Int)), .em, .em]) := by
    simp only [eOp, eL, cm, Res.bind_ok, aNil, e0]
  have e3 : sIf (bOf (eOp (dIn false) (eV 2) (eTup (aCons (eC (.int 4)) (aCons (eC (.int 5)) aNil))))) (sRet (eAnd (eOp dEq (eCB fLen (aCons (eV 0) aNil)) (eCB fLen (aCons (eV 1) aNil))) (eOp dEq (eL (eComp [3, 4] (CS1__law_like (g__law_like n)) (CT1__law_like (g__law_like n)) (CP1__law_like (g__law_like n)) (CE1__law_like (g__law_like n)))) (eL aNil)))) (fun ε => .nx ε) [.pu x, .pu x, .pu (.int (k : Int)), .em, .em] = .rt (.bl true) [.pu x, .pu x, .pu (.int (k : Int)), .em, .em] := by
    have c0 : bOf (eOp (dIn false) (eV 2) (eTup (aCons (eC (.int 4)) (aCons (eC (.int 5)) aNil)))) [.pu x, .pu x, .pu (.int (k : Int)), .em, .em] = .ok (true, [.pu x, .pu x, .pu (.int (k : Int)), .em, .em]) := by simp [i1]
    simp only [sIf, c0, Res.out, if_true, sRet, eAnd, e1, e2, Res.bind_ok, asB]
  simp only [sSeq, e3, Out.andThen, outRes]
theorem like_ok {n : Nat} {d : D} (h : Plain n d) : g__law_like n [d, d] = .ok (.bl true) := by
  induction h with
  | int n a => exact like_int n a
  | bl n a => exact like_bl n a
  | tup n ds h hl ih => exact like_seq (k := 4) rfl rfl rfl (by rfl) (.inl rfl) hl ih
  | lst n ds h hl ih => exact like_seq (k := 5) rfl rfl rfl (by rfl) (.inr rfl) hl ih

theorem like_non (n : Nat) : g__law_like (n + 1) [.non, .non] = .ok (.bl true) := by
  have s : g__law_sort [.non] = .ok (.int 0) := by rfl
  have i1 : dIn false (.int 0) (.tup [.int 4, .int 5]) = .ok (.bl false) := by rfl
  have e : dEq .non .non = .ok (.bl true) := by rfl
  show outRes (b__law_like (g__law_like n) (startE 5 [.non, .non])) = _
  simp [b__law_like, s, i1, dNe_int, dEq_int, e]
theorem plain_rd (n : Nat) (q : Rat) : Plain (n + 2) (rd q) := .tup _ _ (fun d hd => by
  rcases List.mem_cons.mp hd with rfl | h
  · exact .int _ _
  · rcases List.mem_cons.mp h with rfl | h
    · exact .int _ _
    · cases h) (by simp)
theorem plain_rds (n : Nat) (g : Nat → Rat) (m : Nat) (h : m ≤ 1000000) : Plain (n + 3) (.tup (rds g m)) := .tup _ _ (fun d hd => by
  obtain ⟨i, _, rfl⟩ := List.mem_map.mp hd
  exact plain_rd _ _) (by rw [rds_len]; exact h)
theorem ne_rd (q : Rat) : dNe (rd q) (rd q) = .ok (.bl false) := by
  simp [dNe, rd, D.okq, D.okqL, dEqv, D.pyd, D.pydL, PyData.eqv, PyData.eqvAll]
theorem eq_rd (q : Rat) : dEq (rd q) (rd q) = .ok (.bl true) := by
  simp [dEq, rd, D.okq, D.okqL, dEqv, D.pyd, D.pydL, PyData.eqv, PyData.eqvAll]
section
variable {L : List Rat} {B : Nat}
theorem quo_sz (v : Lv L B) {x : Rat} {M : Nat} (q : Q B x 1 M) (h : M ≤ 2 ^ 200) : Sz (x / mn L) := by
  obtain ⟨_, A, e, l⟩ := q
  obtain ⟨_, C, e2, l2⟩ := mnp_q v v.l2
  have mp := mn_pos v
  have me : sm (fun k => ((k + 1 : Nat) : Rat) * ff L k) L.length = mn L := rfl
  rw [me] at e2
  rw [Nat.pow_one] at e e2 l l2
  have bp : (0 : Rat) < (B : Rat) := by
    have : ((0 : Nat) : Rat) < (B : Rat) := Rat.natCast_lt_natCast.mpr v.b1
    simpa using this
  have cp : (0 : Rat) < (C : Rat) := by rw [← e2]; exact Rat.mul_pos mp bp
  have ci : 0 < C := by
    have : ((0 : Int) : Rat) < (C : Rat) := by simpa using cp
    exact Rat.intCast_lt_intCast.mp this
  have cn : ((C.natAbs : Nat) : Rat) = (C : Rat) := by
    rw [← Rat.intCast_natCast]
    congr 1
    omega
  have b : Bd (x / mn L) C.natAbs (M * B) := ⟨by omega, A, by rw [cn, ← e2, ← e]; grind, l⟩
  refine b.sz ?_ ?_
  · have : C.natAbs ≤ 14400 := Nat.le_trans l2 (Nat.mul_le_mul_left 144 v.b2)
    exact Nat.lt_of_le_of_lt this (by decide)
  · exact Nat.lt_of_le_of_lt (Nat.mul_le_mul h v.b2) (by decide)
theorem smG_q (v : Lv L B) {m : Nat} (h : m ≤ 12) : Q B (sm (G (ff L)) m) 1 156 := (Q.sm v.b1 (M := 13) m fun k hk => (G_q v k).mono (by omega)).mono (by omega)
def lg (L : List Rat) (a : Nat) : Rat := G (ff L) a / mn L
theorem sm_lg (v : Lv L B) : ∀ m, sm (lg L) m = sm (G (ff L)) m / mn L
  | 0 => by simp only [sm]; grind
  | m + 1 => by
    have e := sm_lg v m
    simp only [sm]
    rw [e]
    unfold lg
    grind
theorem lg_one (v : Lv L B) : sm (lg L) L.length = 1 := by
  have p := mn_pos v
  rw [sm_lg v, mn_G v]
  grind
theorem lg_sz (v : Lv L B) {a : Nat} (h : a ≤ 100) : Sz (lg L a) := quo_sz v (G_q v a) (Nat.le_trans (show a + 1 ≤ 101 by omega) (by decide))
theorem slg_sz (v : Lv L B) {m : Nat} (h : m ≤ 12) : Sz (sm (lg L) m) := by
  rw [sm_lg v]
  exact quo_sz v (smG_q v h) (by decide)
theorem ag_q (v : Lv L B) {N a : Nat} (hN : N ≤ 30) (ha : a ≤ 12) : Q B (ag L N a) 31 (31 ^ 30 * 13) := by
  unfold ag
  split
  · have := Q.mul (u_q v (N - a) (by omega)) (G_q v a)
    exact (this.up v.b1 (by omega)).mono (Nat.mul_le_mul (Nat.pow_le_pow_right (by decide) (by omega)) (by omega))
  · exact (Q.zero v.b1).mono (Nat.zero_le _)
theorem ag_sz (v : Lv L B) {N a : Nat} (hN : N ≤ 30) (ha : a ≤ 12) : Sz (ag L N a) := (ag_q v hN ha).sz v.b2 (by omega) (by decide)
theorem sag_sz (v : Lv L B) {N m : Nat} (hN : N ≤ 30) (hm : m ≤ 12) : Sz (sm (ag L N) m) := ((Q.sm v.b1 m fun k hk => ag_q v hN (by omega)).mono (Nat.mul_le_mul_right _ hm)).sz v.b2 (by omega) (by decide)
def RS (L : List Rat) (N : Nat) (s5 s6 s7 s8 : Slot) : Ev := [.pu (lv L), .pu (.int (N : Int)), .pu (.tup (rds (u (ff L)) (N + 1))), .pu (.int (L.length : Int)), .pu (rd (mn L)), s5, s6, s7, s8, .em, .em, .em, .em]
theorem stay_ok (v : Lv L B) {N a : Nat} (h : a < L.length) (s5 s8 : Slot) : sTg (tName 6) (eCB g__law_less (aCons (eV 6) (aCons (eOp dIx (eV 0) (eV 7)) aNil))) (RS L N s5 (.pu (rd (G (ff L) a))) (.pu (.int (a : Int))) s8) = .nx (RS L N s5 (.pu (rd (G (ff L) (a + 1)))) (.pu (.int (a : Int))) s8) := by
  have n12 := v.l2
  have e := lless_ok (G_sz v (a := a) (by omega)) (ff_sz v a)
  have ix : dIx (lv L) (.int (a : Int)) = .ok (rd (ff L a)) := ix_tup h rfl
  exact sTg_ok (eCB_ok (aCons_ok (by rfl) (aCons_ok (eOp_ok (by rfl) (by rfl) ix) aNil_ok)) e) rfl
theorem ages_turn (v : Lv L B) {N a : Nat} (hN : N ≤ 30) (h : a < L.length) : B1__law_right (RS L N (.ow (rds (ag L N) a)) (.pu (rd (G (ff L) a))) (.pu (.int (a : Int))) .em) = .nx (RS L N (.ow (rds (ag L N) (a + 1))) (.pu (rd (G (ff L) (a + 1)))) (.pu (.int (a : Int))) .em) := by
  have n12 := v.l2
  let E := RS L N (.ow (rds (ag L N) a)) (.pu (rd (G (ff L) a))) (.pu (.int (a : Int))) .em
  have le : dLe (.int (a : Int)) (.int (N : Int)) = .ok (.bl (decide (a ≤ N))) := by
    show Res.ok (D.bl (decide ((a : Int) ≤ (N : Int)))) = _
    congr 2
    exact decide_eq_decide.mpr (by omega)
  have tst : bOf (eOp dLe (eV 7) (eV 1)) E = .ok (decide (a ≤ N), E) := bOf_ok (eOp_ok (by rfl) (by rfl) le)
  have el : eIf (bOf (eOp dLe (eV 7) (eV 1))) (eCB g__law_times (aCons (eOp dIx (eV 2) (eOp dSub (eV 1) (eV 7))) (aCons (eV 6) aNil))) (eTup (aCons (eC (.int 0)) (aCons (eC (.int 1)) aNil))) E = .ok (rd (ag L N a), E) := by
    unfold ag
    by_cases w : a ≤ N
    · rw [decide_eq_true w] at tst
      rw [if_pos w]
      have e1 := ltimes_ok (u_sz v (i := N - a) (by omega)) (G_sz v (a := a) (by omega))
      have ix : dIx (.tup (rds (u (ff L)) (N + 1))) (.int ((N : Int) - (a : Int))) = .ok (rd (u (ff L) (N - a))) := ix_tup (by omega) (by omega)
      exact eIf_t tst (eCB_ok (aCons_ok (eOp_ok (by rfl) (by rfl) ix) (by rfl)) e1)
    · rw [decide_eq_false w] at tst
      rw [if_neg w]
      exact eIf_f tst rfl
  have a1 : sAppend 5 (eIf (bOf (eOp dLe (eV 7) (eV 1))) (eCB g__law_times (aCons (eOp dIx (eV 2) (eOp dSub (eV 1) (eV 7))) (aCons (eV 6) aNil))) (eTup (aCons (eC (.int 0)) (aCons (eC (.int 1)) aNil)))) E = .nx (RS L N (.ow (rds (ag L N) (a + 1))) (.pu (rd (G (ff L) a))) (.pu (.int (a : Int))) .em) :=
    sAppend_ok (ds := rds (ag L N) a) (es := rds (ag L N) a) rfl el rfl (by rw [rds_len]; omega) (by rw [← rds_succ]; rfl)
  show (sSeq _ _) E = _
  rw [sSeq_nx a1]
  exact stay_ok v h _ _
theorem ages_loop (v : Lv L B) {N : Nat} (hN : N ≤ 30) : ∀ (m a : Nat) (s7 : Slot), a + m ≤ L.length → ∃ t7, forF T1__law_right B1__law_right ((List.range' a m).map fun t : Nat => D.int (t : Int)) (RS L N (.ow (rds (ag L N) a)) (.pu (rd (G (ff L) a))) s7 .em) = .nx (RS L N (.ow (rds (ag L N) (a + m))) (.pu (rd (G (ff L) (a + m)))) t7 .em)
  | 0, a, s7, _ => ⟨s7, rfl⟩
  | m + 1, a, s7, h => by
    obtain ⟨t7, e⟩ := ages_loop v hN m (a + 1) (.pu (.int (a : Int))) (by omega)
    refine ⟨t7, ?_⟩
    have t1 : T1__law_right (.int (a : Int)) (RS L N (.ow (rds (ag L N) a)) (.pu (rd (G (ff L) a))) s7 .em) = .ok (RS L N (.ow (rds (ag L N) a)) (.pu (rd (G (ff L) a))) (.pu (.int (a : Int))) .em) := rfl
    rw [List.range'_succ, List.map_cons]
    simp only [forF, t1, Res.ne, ages_turn v hN (show a < L.length by omega), e]
    rw [show a + 1 + m = a + (m + 1) by omega]
theorem long_turn (v : Lv L B) {N a : Nat} (h : a < L.length) (s5 : Slot) : B2__law_right (RS L N s5 (.pu (rd (G (ff L) a))) (.pu (.int (a : Int))) (.pu (.tup (rds (lg L) L.length)))) = .nx (RS L N s5 (.pu (rd (G (ff L) (a + 1)))) (.pu (.int (a : Int))) (.pu (.tup (rds (lg L) L.length)))) := by
  have n12 := v.l2
  have p := mn_pos v
  have e := ltimes_ok (lg_sz v (a := a) (by omega)) (mn_sz v)
  have g : lg L a * mn L = G (ff L) a := by unfold lg; grind
  rw [g] at e
  have ix : dIx (.tup (rds (lg L) L.length)) (.int (a : Int)) = .ok (rd (lg L a)) := ix_tup h rfl
  show (sSeq _ _) _ = _
  rw [sSeq_nx (sIf_f (bOf_ok (eOp_ok (eCB_ok (aCons_ok (eOp_ok (by rfl) (by rfl) ix) (by rfl)) e) (by rfl) (ne_rd _))) rfl)]
  exact stay_ok v h _ _
theorem long_loop (v : Lv L B) {N : Nat} (s5 : Slot) : ∀ (m a : Nat) (s7 : Slot), a + m ≤ L.length → ∃ t7, forF T2__law_right B2__law_right ((List.range' a m).map fun t : Nat => D.int (t : Int)) (RS L N s5 (.pu (rd (G (ff L) a))) s7 (.pu (.tup (rds (lg L) L.length)))) = .nx (RS L N s5 (.pu (rd (G (ff L) (a + m)))) t7 (.pu (.tup (rds (lg L) L.length))))
  | 0, a, s7, _ => ⟨s7, rfl⟩
  | m + 1, a, s7, h => by
    obtain ⟨t7, e⟩ := long_loop v (N := N) s5 m (a + 1) (.pu (.int (a : Int))) (by omega)
    refine ⟨t7, ?_⟩
    have t1 : T2__law_right (.int (a : Int)) (RS L N s5 (.pu (rd (G (ff L) a))) s7 (.pu (.tup (rds (lg L) L.length)))) = .ok (RS L N s5 (.pu (rd (G (ff L) a))) (.pu (.int (a : Int))) (.pu (.tup (rds (lg L) L.length)))) := rfl
    rw [List.range'_succ, List.map_cons]
    simp only [forF, t1, Res.ne, long_turn v (N := N) (show a < L.length by omega), e]
    rw [show a + 1 + m = a + (m + 1) by omega]
theorem low_self {q : Rat} (s : Sz q) : g__law_low [.int q.num, .int (q.den : Int)] = .ok (rd q) := by
  have p : (2 : Nat) ^ 420 ≤ 2 ^ 840 := Nat.pow_le_pow_right (by decide) (by decide)
  have e := low_ok (t := q.num) (b := (q.den : Int)) (by have := q.den_pos; omega) (by have := s.d; omega)
  have h : ((q.num : Int) : Rat) / ((q.den : Int) : Rat) = q := by
    have n := den_ne q
    have r := rat_nd q
    rw [Rat.intCast_natCast, r]
    grind
  rwa [h] at e
theorem right_ok (v : Lv L B) {N : Nat} (hN : N ≤ 30) : g__law_right [lv L, .int (N : Int)] = .ok (.bl true) := by
  have n12 := v.l2
  have e1 := lnews_ok v hN
  have ln : fLen [lv L] = .ok (.int (L.length : Int)) := by show Res.ok (D.int ((rds (ff L) L.length).length : Int)) = _; rw [rds_len]
  have st : startE 13 [lv L, .int (N : Int)] = [.pu (lv L), .pu (.int (N : Int)), .em, .em, .em, .em, .em, .em, .em, .em, .em, .em, .em] := rfl
  let E0 : Ev := [.pu (lv L), .pu (.int (N : Int)), .pu (.tup (rds (u (ff L)) (N + 1))), .pu (.int (L.length : Int)), .em, .em, .em, .em, .em, .em, .em, .em, .em]
  have src1 : CS1__law_right E0 = .ok ((List.range L.length).map fun k => .tup [.int ((k + 0 : Nat) : Int), rd (ff L k)], E0) := by
    rw [← enum_rds]
    rfl
  have cm1 : eComp [9, 10] CS1__law_right CT1__law_right CP1__law_right CE1__law_right E0 = .ok ((List.range L.length).map fun k => rd (((k + 1 : Nat) : Rat) * ff L k), E0) :=
    comp_all _ (fun k => rd (((k + 1 : Nat) : Rat) * ff L k)) src1 (by omega) rfl fun k hk => by
      have e2 := ltimes_ok (ff_sz v k) (nat_sz (k := k + 1) (by omega))
      rw [rd_nat, Rat.mul_comm] at e2
      exact blk_yes (ε1 := [.pu (lv L), .pu (.int (N : Int)), .pu (.tup (rds (u (ff L)) (N + 1))), .pu (.int (L.length : Int)), .em, .em, .em, .em, .em, .pu (.int ((k + 0 : Nat) : Int)), .pu (rd (ff L k)), .em, .em]) rfl rfl (eCB_ok (by rfl) e2) rfl
  have mt := lsum_ok (g := fun k => ((k + 1 : Nat) : Rat) * ff L k) (m := L.length) (x := .lst ((List.range L.length).map fun k => rd (((k + 1 : Nat) : Rat) * ff L k))) rfl
    (fun i hi => (mnp_q v (by omega)).sz v.b2 (by omega) (by decide)) (fun i hi => (mnt_q v (by omega)).sz v.b2 (by omega) (by decide))
  let E1 := RS L N .em .em .em .em
  have w1 := new_ok v hN
  have w2 := count_ok v hN
  have w3 := mean_life_ok v
  have cs := lsum_ok (g := fun i => u (ff L) (1 + i)) (m := N) (x := .tup ((rds (u (ff L)) (N + 1)).drop 1)) (by rw [rds_drop]; rfl) (fun i hi => cn_sz v (by omega)) (fun i hi => u_sz v (by omega))
  have sl : eSl (eV 2) (oS (eC (.int 1))) oN E1 = .ok (.tup ((rds (u (ff L)) (N + 1)).drop 1), E1) := by
    have d1 : dSl (.tup (rds (u (ff L)) (N + 1))) (some 1) none = .ok (.tup ((rds (u (ff L)) (N + 1)).drop 1)) := by
      show Res.ok (D.tup (cutD (rds (u (ff L)) (N + 1)) (some ((1 : Nat) : Int)) none)) = _
      rw [cutD_drop]
    have v0 : eV 2 E1 = .ok (.tup (rds (u (ff L)) (N + 1)), E1) := rfl
    simp only [eSl, v0, oS, eC, asI, oN, Res.bind_ok, d1]
  have l1 : g__law_like 12 [.lst [.tup (rds (u (ff L)) (N + 1)), rd (cn L N), rd (mn L)], .lst [.tup (rds (u (ff L)) (N + 1)), rd (cn L N), rd (mn L)]] = .ok (.bl true) := like_ok (.lst _ _ (fun d hd => by
    rcases List.mem_cons.mp hd with rfl | h
    · exact plain_rds 8 _ _ (by omega)
    · rcases List.mem_cons.mp h with rfl | h
      · exact plain_rd _ _
      · rcases List.mem_cons.mp h with rfl | h
        · exact plain_rd _ _
        · cases h) (by simp))
  obtain ⟨t7, al⟩ := ages_loop v hN L.length 0 .em (by omega)
  rw [Nat.zero_add, ← List.range_eq_range'] at al
  have asrc : S1__law_right (RS L N (.ow []) (.pu (rd 1)) .em .em) = .ok ((List.range L.length).map fun t : Nat => D.int (t : Int), RS L N (.ow []) (.pu (rd 1)) .em .em) :=
    iCall_ok (g := fRange) (fs := aCons (eV 3) aNil) (ds := [.int (L.length : Int)]) (by rfl) (fRange1 rfl (by omega))
  have w4 := ages_ok v hN
  have as1 := lsum_ok (g := ag L N) (m := L.length) (x := .lst (rds (ag L N) L.length)) rfl (fun i hi => sag_sz v hN (by omega)) (fun i hi => ag_sz v hN (by omega))
  have ao : sm (ag L N) L.length = 1 := ages_sum v N
  rw [ao] at as1
  have l2 : g__law_like 12 [.tup (rds (ag L N) L.length), .tup (rds (ag L N) L.length)] = .ok (.bl true) := like_ok (plain_rds 9 _ _ (by omega))
  have w5 := long_ok v
  have w5' : g_long_ages [lv L] = .ok (.tup (rds (lg L) L.length)) := w5
  have ne1 : dNe (rd 1) (.tup [.int 1, .int 1]) = .ok (.bl false) := ne_rd 1
  have eq1 : dEq (rd 1) (.tup [.int 1, .int 1]) = .ok (.bl true) := eq_rd 1
  show outRes (b__law_right (startE 13 [lv L, .int (N : Int)])) = _
  rw [st]
  unfold b__law_right
  refine out_seq (ε1 := E0) ?_ ?_
  · have a1 : slP (eCB g__law_news (aCons (eV 0) (aCons (eV 1) aNil))) [.pu (lv L), .pu (.int (N : Int)), .em, .em, .em, .em, .em, .em, .em, .em, .em, .em, .em] = .ok (.pu (.tup (rds (u (ff L)) (N + 1))), [.pu (lv L), .pu (.int (N : Int)), .em, .em, .em, .em, .em, .em, .em, .em, .em, .em, .em]) := by
      simp only [slP, eCB_ok (ε := [.pu (lv L), .pu (.int (N : Int)), .em, .em, .em, .em, .em, .em, .em, .em, .em, .em, .em]) (fs := aCons (eV 0) (aCons (eV 1) aNil)) rfl e1, Res.bind_ok]
    have a2 : slP (eCB fLen (aCons (eV 0) aNil)) [.pu (lv L), .pu (.int (N : Int)), .em, .em, .em, .em, .em, .em, .em, .em, .em, .em, .em] = .ok (.pu (.int (L.length : Int)), [.pu (lv L), .pu (.int (N : Int)), .em, .em, .em, .em, .em, .em, .em, .em, .em, .em, .em]) := by
      simp only [slP, eCB_ok (ε := [.pu (lv L), .pu (.int (N : Int)), .em, .em, .em, .em, .em, .em, .em, .em, .em, .em, .em]) (fs := aCons (eV 0) aNil) rfl ln, Res.bind_ok]
    simp only [sPar2, a1, a2, Res.out]
    rfl
  refine out_seq (ε1 := E1) (sTg_ok (eCB_ok (aCons_ok (eL_ok cm1) aNil_ok) mt) rfl) ?_
  refine out_seq (ε1 := E1) (sIfN_ok (eCB_ok (aCons_ok (eL_ok (aCons_ok (eCB_ok (by rfl) w1) (aCons_ok (eCB_ok (by rfl) w2) (aCons_ok (eCB_ok (by rfl) w3) aNil_ok)))) (aCons_ok (eL_ok (aCons_ok (by rfl) (aCons_ok (eCB_ok (aCons_ok sl aNil_ok) cs) (by rfl)))) aNil_ok)) l1)) ?_
  refine out_seq (ε1 := RS L N (.ow []) (.pu (rd 1)) .em .em) (by rfl) ?_
  refine out_seq (sFor_ok asrc al) ?_
  generalize Slot.pu (rd (G (ff L) L.length)) = s6
  let E2 := RS L N (.pu (.lst (rds (ag L N) L.length))) s6 t7 .em
  refine out_seq (ε1 := E2) ?_ ?_
  · have z0 : eZ 5 (RS L N (.ow (rds (ag L N) L.length)) s6 t7 .em) = .ok (.lst (rds (ag L N) L.length), E2) := rfl
    have z1 : eZ 5 E2 = .ok (.lst (rds (ag L N) L.length), E2) := rfl
    have c1 : bNot (bOf (eCB (g__law_like 12) (aCons (eCB g_ages_at (aCons (eV 0) (aCons (eV 1) aNil))) (aCons (eCB fTuple (aCons (eZ 5) aNil)) aNil)))) (RS L N (.ow (rds (ag L N) L.length)) s6 t7 .em) = .ok (false, E2) :=
      bNot_ok (c := true) (bOf_ok (eCB_ok (aCons_ok (eCB_ok (by rfl) w4) (aCons_ok (eCB_ok (aCons_ok z0 aNil_ok) rfl) aNil_ok)) l2))
    have c2 : bOf (eOp dNe (eCB g__law_sum (aCons (eZ 5) aNil)) (eTup (aCons (eC (.int 1)) (aCons (eC (.int 1)) aNil)))) E2 = .ok (false, E2) :=
      bOf_ok (eOp_ok (eCB_ok (aCons_ok z1 aNil_ok) as1) (by rfl) ne1)
    refine sIf_f (ε1 := E2) ?_ rfl
    simp only [bOr, c1, c2, Res.bind_ok, Bool.false_eq_true, if_false]
  generalize hs5 : Slot.pu (D.lst (rds (ag L N) L.length)) = s5 at E2
  obtain ⟨r7, ll⟩ := long_loop v (N := N) s5 L.length 0 t7 (by omega)
  rw [Nat.zero_add, ← List.range_eq_range'] at ll
  have lsrc : S2__law_right (RS L N s5 (.pu (rd 1)) t7 (.pu (.tup (rds (lg L) L.length)))) = .ok ((List.range L.length).map fun t : Nat => D.int (t : Int), RS L N s5 (.pu (rd 1)) t7 (.pu (.tup (rds (lg L) L.length)))) :=
    iCall_ok (g := fRange) (fs := aCons (eV 3) aNil) (ds := [.int (L.length : Int)]) (by rfl) (fRange1 rfl (by omega))
  refine out_seq (ε1 := RS L N s5 (.pu (rd 1)) t7 (.pu (.tup (rds (lg L) L.length)))) ?_ ?_
  · show sPar2 8 6 _ _ (RS L N (Slot.pu (D.lst (rds (ag L N) L.length))) s6 t7 .em) = _
    rw [hs5]
    have a1 : slP (eCB g_long_ages (aCons (eV 0) aNil)) (RS L N s5 s6 t7 .em) = .ok (.pu (.tup (rds (lg L) L.length)), RS L N s5 s6 t7 .em) := by
      simp only [slP, eCB_ok (ε := RS L N s5 s6 t7 .em) (fs := aCons (eV 0) aNil) rfl w5', Res.bind_ok]
    have a2 : slP (eTup (aCons (eC (.int 1)) (aCons (eC (.int 1)) aNil))) (RS L N s5 s6 t7 .em) = .ok (.pu (rd 1), RS L N s5 s6 t7 .em) := rfl
    simp only [sPar2, a1, a2, Res.out]
    rfl
  refine out_seq (sFor_ok lsrc ll) ?_
  generalize Slot.pu (rd (G (ff L) L.length)) = x6
  let E3 := RS L N s5 x6 r7 (.pu (.tup (rds (lg L) L.length)))
  have cm2 : eComp [11, 12] CS2__law_right CT2__law_right CP2__law_right CE2__law_right E3 = .ok ((List.range L.length).map fun a => rd (lg L a), E3) :=
    comp_all (fun a => rd (lg L a)) (fun a => rd (lg L a)) rfl (by omega) rfl fun a ha =>
      blk_yes (ε1 := [.pu (lv L), .pu (.int (N : Int)), .pu (.tup (rds (u (ff L)) (N + 1))), .pu (.int (L.length : Int)), .pu (rd (mn L)), s5, x6, r7, .pu (.tup (rds (lg L) L.length)), .em, .em, .pu (.int (lg L a).num), .pu (.int ((lg L a).den : Int))]) rfl rfl (eCB_ok (by rfl) (low_self (lg_sz v (by omega)))) rfl
  have l3 : g__law_like 12 [.tup (rds (lg L) L.length), .tup (rds (lg L) L.length)] = .ok (.bl true) := like_ok (plain_rds 9 _ _ (by omega))
  refine out_seq (ε1 := E3) (sIfN_ok (eCB_ok (aCons_ok (by rfl) (aCons_ok (eCB_ok (aCons_ok (eL_ok cm2) aNil_ok) rfl) aNil_ok)) l3)) ?_
  have ll2 : fLen [.tup (rds (lg L) L.length)] = .ok (.int (L.length : Int)) := by show Res.ok (D.int ((rds (lg L) L.length).length : Int)) = _; rw [rds_len]
  have ls := lsum_ok (g := lg L) (m := L.length) (x := .tup (rds (lg L) L.length)) rfl (fun i hi => slg_sz v (by omega)) (fun i hi => lg_sz v (by omega))
  rw [lg_one v] at ls
  have q1 : eOp dEq (eCB fLen (aCons (eV 8) aNil)) (eV 3) E3 = .ok (.bl true, E3) := eOp_ok (eCB_ok (by rfl) ll2) (by rfl) (by rw [dEq_int]; simp)
  have q2 : eOp dEq (eCB g__law_sum (aCons (eV 8) aNil)) (eTup (aCons (eC (.int 1)) (aCons (eC (.int 1)) aNil))) E3 = .ok (.bl true, E3) := eOp_ok (eCB_ok (by rfl) ls) (by rfl) eq1
  refine out_ret (ε1 := E3) ?_
  simp only [eAnd, q1, q2, Res.bind_ok, asB, if_true]
end
end W64
namespace W64
open PySem L2 PL
theorem nat_ne {m : Nat} (h : 1 ≤ m) : (m : Rat) ≠ 0 := fun z => by have := Rat.natCast_eq_zero_iff.mp z; omega
theorem cup_ok (ns : List Int) (hl : ns.length ≤ 63) : ∃ a b : Int, g__law_cup [.scr ns] = .ok [.int a, .int b] := by
  have hx : ∃ v : Int, L2.atI (ns.map D.int ++ [D.int 0]) 0 = some (.int v) := by
    cases ns with
    | nil => exact ⟨0, rfl⟩
    | cons n ns => exact ⟨n, L2.atI_nat (j := 0) (by simp)⟩
  obtain ⟨v, hv⟩ := hx
  have z : ns.length + 1 ≤ 1000000 := by omega
  have m : ∀ c : Int, mulOk c 467 = true := fun c => by simp [mulOk]; exact .inr (by decide)
  have d1 : divOk 223 = true := by decide
  have p1 : dPow (.int 10) (.int 18) = .ok (.int 1000000000000000000) := by rfl
  have f1 : fList [.scr ns] = .ok (ns.map D.int) := rfl
  obtain ⟨c, hc⟩ : ∃ c : Int, fAbs [.int v] = .ok (.int c) := ⟨_, rfl⟩
  have e1 : b1__law_cup (startE 2 [.scr ns]) = .nx [.pu (.scr ns), .pu (.int c)] := by simp [b1__law_cup, eCN, f1, dCat, z, hv, hc, -s_atI, -s_ixN]
  by_cases h : (1000000000000000000 : Int) ≤ c
  · have e2 : b2__law_cup [.pu (.scr ns), .pu (.int c)] = .ok ([.int (c.fdiv 223), .int ((c * 467 + 7151).fmod 99901 + 331)], [.pu (.scr ns), .pu (.int c)]) := by simp [b2__law_cup, dMul, m, p1, dDiv, d1, dMod, fInt, h]
    exact ⟨_, _, by simp only [g__law_cup, e1, e2, Res.bind_ok]; rfl⟩
  · have e2 : b2__law_cup [.pu (.scr ns), .pu (.int c)] = .ok ([.int 0, .int ((c * 467 + 7151).fmod 99901 + 331)], [.pu (.scr ns), .pu (.int c)]) := by simp [b2__law_cup, dMul, m, p1, dDiv, d1, dMod, fInt, h]
    exact ⟨_, _, by simp only [g__law_cup, e1, e2, Res.bind_ok]; rfl⟩
theorem roll_ok (a b M : Int) (many : Nat) (hM : M = (many : Int)) (h1 : 1 ≤ many) (h2 : many < 2 ^ 60) : ∃ (r : Nat) (a' b' : Int), r < many ∧ g__law_roll [.int a, .int b] [.int M] = .ok (.int (r : Int), [.int a', .int b']) := by
  subst hM
  have hm : (many : Int) ≠ 0 := by omega
  have hm' : many ≠ 0 := by omega
  have hd : divOk (many : Int) = true := by
    simp only [divOk, Int.natAbs_natCast, decide_eq_true_eq]
    refine ⟨hm, ?_⟩
    rw [Nat.log2_lt hm']
    exact Nat.lt_trans h2 (Nat.pow_lt_pow_right (by decide) (by decide))
  have d23 : divOk 23 = true := by decide
  have m : ∀ c : Int, mulOk c 103 = true := fun c => by simp [mulOk]; exact .inr (by decide)
  have fm : ∀ x : Int, ∃ r : Nat, r < many ∧ x.fmod (many : Int) = (r : Int) := fun x => by
    refine ⟨(x.fmod (many : Int)).toNat, ?_, ?_⟩
    · have g1 := Int.fmod_lt_of_pos x (show (0 : Int) < (many : Int) by omega)
      have g2 := Int.fmod_nonneg_of_pos x (show (0 : Int) < (many : Int) by omega)
      omega
    · have g2 := Int.fmod_nonneg_of_pos x (show (0 : Int) < (many : Int) by omega)
      omega
  by_cases h : 0 < a
  · obtain ⟨r, hr, e⟩ := fm a
    refine ⟨r, a.fdiv many, b, hr, ?_⟩
    simp [g__law_roll, b__law_roll, outC, startC, h, dMod, fInt, hm, hm', e, sSetIx, dDiv, hd]
  · obtain ⟨r, hr, e⟩ := fm (((b * 103 + 1823).fmod 99901).fdiv 23)
    refine ⟨r, a, (b * 103 + 1823).fmod 99901, hr, ?_⟩
    simp [g__law_roll, b__law_roll, outC, startC, h, dMod, fInt, hm, hm', e, sSetIx, dDiv, d23, dMul, m]
/-- one of so many things -/
theorem some_ok (a b : Int) (xs : List D) (h1 : 1 ≤ xs.length) (h2 : xs.length < 2 ^ 60) : ∃ (r : Nat) (x : D) (a' b' : Int), r < xs.length ∧ xs[r]? = some x ∧ g__law_some [.int a, .int b] [.lst xs] = .ok (x, [.int a', .int b']) := by
  obtain ⟨r, a', b', hr, e⟩ := roll_ok a b (xs.length : Int) xs.length rfl h1 h2
  refine ⟨r, xs[r], a', b', hr, List.getElem?_eq_getElem hr, ?_⟩
  have h : L2.atI xs (r : Int) = some xs[r] := L2.atI_nat (List.getElem?_eq_getElem hr)
  simp [g__law_some, b__law_some, outC, startC, eCallC, e, h, -s_atI, -s_ixN]
theorem bd_of {t b : Nat} (hb : 0 < b) : Bd (((t : Int) : Rat) / ((b : Int) : Rat)) b t := by
  refine ⟨hb, (t : Int), ?_, by omega⟩
  have n : ((b : Nat) : Rat) ≠ 0 := nat_ne hb
  rw [Rat.intCast_natCast, Rat.intCast_natCast]
  grind
theorem natP {b : Nat} (hb : 0 < b) : (0 : Rat) < (b : Rat) := by
  have : ((0 : Nat) : Rat) < (b : Rat) := Rat.natCast_lt_natCast.mpr hb
  simpa using this
theorem of_nn {t b : Nat} (hb : 0 < b) : 0 ≤ ((t : Int) : Rat) / ((b : Int) : Rat) := by
  rw [Rat.intCast_natCast, Rat.intCast_natCast, ← Rat.not_lt, Rat.div_lt_iff (natP hb), Rat.zero_mul, Rat.not_lt]
  exact Rat.natCast_nonneg

/-! lives from whole numbers -/
def fr (S p : Nat) : Rat := ((p : Int) : Rat) / ((S : Int) : Rat)
theorem lv_map (L : List Rat) : lv L = .tup (L.map rd) := by
  unfold lv
  congr 1
  refine List.ext_getElem? fun i => ?_
  by_cases h : i < L.length
  · rw [rds_get h, List.getElem?_map, List.getElem?_eq_getElem h]
    unfold ff
    rw [List.getD_eq_getElem?_getD, List.getElem?_eq_getElem h]
    rfl
  · rw [List.getElem?_eq_none (by rw [rds_len]; omega), List.getElem?_eq_none (by rw [List.length_map]; omega)]
theorem sm_frs (S : Nat) (hS : 0 < S) : ∀ ps : List Nat, sm (ff (ps.map (fr S))) (ps.map (fr S)).length = ((ps.sum : Nat) : Rat) / (S : Rat)
  | [] => by simp only [List.map_nil, List.length_nil, sm, List.sum_nil]; grind
  | p :: ps => by
    have e := sm_frs S hS ps
    rw [List.map_cons, List.length_cons, sm_head]
    have c : sm (fun i => ff (fr S p :: ps.map (fr S)) (1 + i)) (ps.map (fr S)).length = sm (ff (ps.map (fr S))) (ps.map (fr S)).length := sm_cong _ fun k _ => by
      rw [Nat.add_comm]
      rfl
    rw [c, e]
    have f : ff (fr S p :: ps.map (fr S)) 0 = fr S p := rfl
    rw [f, List.sum_cons, Rat.natCast_add]
    unfold fr
    rw [Rat.intCast_natCast, Rat.intCast_natCast]
    grind
theorem sum_le_of_mem {p : Nat} : ∀ {ps : List Nat}, p ∈ ps → p ≤ ps.sum
  | q :: ps, h => by
    rw [List.sum_cons]
    rcases List.mem_cons.mp h with rfl | h
    · omega
    · have := sum_le_of_mem h
      omega
theorem lv_of {ps : List Nat} {r : Nat} (h1 : ps.length ≤ 11) (hr : 1 ≤ r) (hs : (ps ++ [r]).sum ≤ 100) : Lv ((ps ++ [r]).map (fr (ps ++ [r]).sum)) (ps ++ [r]).sum := by
  have hS : 0 < (ps ++ [r]).sum := by rw [List.sum_append]; simp; omega
  obtain ⟨S, hSS⟩ : ∃ S, S = (ps ++ [r]).sum := ⟨_, rfl⟩
  refine ⟨?_, ?_, hS, hs, ?_, ?_, ?_, ?_⟩
  · simp
  · simp; omega
  · intro q hq
    obtain ⟨p, _, rfl⟩ := List.mem_map.mp hq
    exact of_nn hS
  · intro q hq
    obtain ⟨p, hp, rfl⟩ := List.mem_map.mp hq
    exact (bd_of (t := p) hS).mono (sum_le_of_mem hp)
  · rw [sm_frs _ hS]
    have := nat_ne hS
    grind
  · have l : ff ((ps ++ [r]).map (fr (ps ++ [r]).sum)) (((ps ++ [r]).map (fr (ps ++ [r]).sum)).length - 1) = fr (ps ++ [r]).sum r := by
      unfold ff
      rw [List.getD_eq_getElem?_getD, List.getElem?_map]
      simp
    rw [l]
    unfold fr
    rw [Rat.intCast_natCast, Rat.intCast_natCast, Rat.lt_div_iff (natP hS), Rat.zero_mul]
    exact natP hr
theorem allI_nat : ∀ ps : List Nat, allI (ps.map fun p : Nat => D.int (p : Int)) = some (ps.map fun p : Nat => (p : Int))
  | [] => rfl
  | p :: ps => by
    show (allI (ps.map fun p : Nat => D.int (p : Int))).map ((p : Int) :: ·) = _
    rw [allI_nat ps]
    rfl
theorem sum_nat : ∀ ps : List Nat, (ps.map fun p : Nat => (p : Int)).sum = ((ps.sum : Nat) : Int)
  | [] => rfl
  | p :: ps => by
    rw [List.map_cons, List.sum_cons, List.sum_cons, sum_nat ps]
    omega
def LS (cs : List D) (m : D) : Ev := [.ow cs, .pu m, .em, .em]
theorem one_life (a b : Int) (m x : D) : ∃ (p : Nat) (a' b' : Int), p ≤ 8 ∧ blkF [3] CT1__law_lives CP1__law_lives CE1__law_lives x (LS [.int a, .int b] m) = .ok (some (.int (p : Int)), LS [.int a', .int b'] m) := by
  obtain ⟨r, a1, b1, h, e1⟩ := roll_ok a b 9 9 rfl (by decide) (by decide)
  obtain ⟨i, y, a2, b2, hi, hy, e2⟩ := some_ok a1 b1 [.int 0, .int 1, .int (r : Int)] (by simp) (by simp)
  obtain ⟨p, hp, hy2⟩ : ∃ p : Nat, p ≤ 8 ∧ y = .int (p : Int) := by
    have r6 : i = 0 ∨ i = 1 ∨ i = 2 := by
      have : i < 3 := hi
      omega
    rcases r6 with rfl | rfl | rfl <;> (have h2 := (Option.some.inj hy).symm; subst h2)
    · exact ⟨0, by omega, rfl⟩
    · exact ⟨1, by omega, rfl⟩
    · exact ⟨r, by omega, rfl⟩
  subst hy2
  refine ⟨p, a2, b2, hp, ?_⟩
  have el : CE1__law_lives [.ow [.int a, .int b], .pu m, .em, .pu x] = .ok (.int (p : Int), [.ow [.int a2, .int b2], .pu m, .em, .pu x]) := by
    simp [eCallC, e1, e2, -s_atI, -s_ixN]
  exact blk_yes (ε1 := [.ow [.int a, .int b], .pu m, .em, .pu x]) rfl rfl el rfl
theorem lives_loop (m : D) : ∀ (xs acc : List D) (a b : Int), ∃ (ps : List Nat) (a' b' : Int), ps.length = xs.length ∧ (∀ p ∈ ps, p ≤ 8) ∧ loopC [3] (blkF [3] CT1__law_lives CP1__law_lives CE1__law_lives) xs (LS [.int a, .int b] m) acc = .ok (acc ++ ps.map fun p : Nat => D.int (p : Int), LS [.int a', .int b'] m)
  | [], acc, a, b => ⟨[], a, b, rfl, (fun _ h => by cases h), by simp [loopC]⟩
  | x :: xs, acc, a, b => by
    obtain ⟨p, a1, b1, hp, e1⟩ := one_life a b m x
    obtain ⟨ps, a2, b2, hl, hps, e2⟩ := lives_loop m xs (acc ++ [.int (p : Int)]) a1 b1
    refine ⟨p :: ps, a2, b2, by rw [List.length_cons, List.length_cons, hl], ?_, ?_⟩
    · intro q hq
      rcases List.mem_cons.mp hq with rfl | h
      · exact hp
      · exact hps q h
    · have no : noOw (LS [.int a, .int b] m) [3] = true := rfl
      simp only [loopC, no, if_true, e1, Res.ne, Res.bind_ok, accD, e2, List.map_cons]
      simp
theorem sum_le : ∀ {ps : List Nat}, (∀ p ∈ ps, p ≤ 8) → ps.sum ≤ 8 * ps.length
  | [], _ => by simp
  | p :: ps, h => by
    have a := sum_le (ps := ps) fun q hq => h q (List.mem_cons_of_mem _ hq)
    have b := h p List.mem_cons_self
    rw [List.sum_cons, List.length_cons]
    omega
theorem lives_draw (a b : Int) : ∃ (L : List Rat) (B : Nat) (a' b' : Int), Lv L B ∧ g__law_lives [.int a, .int b] [] = .ok (lv L, [.int a', .int b']) := by
  obtain ⟨m, a1, b1, hm, e1⟩ := roll_ok a b 5 5 rfl (by decide) (by decide)
  obtain ⟨ps, a2, b2, hl, hps, e2⟩ := lives_loop (.int (1 + (m : Int))) ((List.range m).map fun t : Nat => D.int (t : Int)) [] a1 b1
  obtain ⟨r, a3, b3, hr, e3⟩ := roll_ok a2 b2 9 9 rfl (by decide) (by decide)
  rw [List.length_map, List.length_range] at hl
  have hsum := sum_le hps
  have hT : (ps ++ [1 + r]).sum ≤ 100 := by rw [List.sum_append]; simp; omega
  have v := lv_of (ps := ps) (r := 1 + r) (by omega) (by omega) hT
  refine ⟨_, _, a3, b3, v, ?_⟩
  have hS : 0 < (ps ++ [1 + r]).sum := v.b1
  rw [lv_map]
  obtain ⟨qs, hq⟩ : ∃ qs, qs = ps ++ [1 + r] := ⟨_, rfl⟩
  have ql : qs.length ≤ 12 := by rw [hq]; simp; omega
  have src : CS1__law_lives (LS [.int a1, .int b1] (.int (1 + (m : Int)))) = .ok ((List.range m).map fun t : Nat => D.int (t : Int), LS [.int a1, .int b1] (.int (1 + (m : Int)))) :=
    iCall_ok (g := fRange) (fs := aCons (eOp dSub (eV 1) (eC (.int 1))) aNil) (ds := [.int (1 + (m : Int) - 1)]) (by rfl) (fRange1 (by omega) (by omega))
  have cm : eComp [3] CS1__law_lives CT1__law_lives CP1__law_lives CE1__law_lives (LS [.int a1, .int b1] (.int (1 + (m : Int)))) = .ok (ps.map fun p : Nat => D.int (p : Int), LS [.int a2, .int b2] (.int (1 + (m : Int)))) := by
    have : ((List.range m).map fun t : Nat => D.int (t : Int)).length ≤ 1000000 := by simp; omega
    simp only [eComp, src, Res.bind_ok, this, if_true, e2, List.nil_append]
  have lst : eL (aCons (eOp dAdd (eC (.int 1)) (eCallC 0 g__law_roll (aCons (eC (.int 9)) aNil))) aNil) (LS [.int a2, .int b2] (.int (1 + (m : Int)))) = .ok (.lst [.int (1 + (r : Int))], LS [.int a3, .int b3] (.int (1 + (m : Int)))) := by
    simp [LS, eCallC, e3]
  have app : dAdd (.lst (ps.map fun p : Nat => D.int (p : Int))) (.lst [.int (1 + (r : Int))]) = .ok (.lst (qs.map fun p : Nat => D.int (p : Int))) := by
    show (dCat _ _).bind _ = _
    have : (ps.map fun p : Nat => D.int (p : Int)).length + [D.int (1 + (r : Int))].length ≤ 1000000 := by simp; omega
    simp only [dCat]
    rw [if_pos this, hq, List.map_append]
    have : (D.int ((1 + r : Nat) : Int)) = D.int (1 + (r : Int)) := by congr 1
    show Res.ok (D.lst _) = Res.ok (D.lst _)
    rw [List.map_cons, List.map_nil, this]
  rw [← hq] at hS ⊢
  let E : Ev := [.ow [.int a3, .int b3], .pu (.int (1 + (m : Int))), .pu (.lst (qs.map fun p : Nat => D.int (p : Int))), .em]
  have cm2 : eComp [3] CS2__law_lives CT2__law_lives CP2__law_lives CE2__law_lives E = .ok (qs.map fun p => rd (fr qs.sum p), E) := by
    have t := eComp_filter (vs := [3]) (src := CS2__law_lives) (tgt := CT2__law_lives) (test := CP2__law_lives) (elt := CE2__law_lives) (ε := E) (fun p : Nat => D.int (p : Int)) (fun _ => true) (fun p => rd (fr qs.sum p)) (xs := qs) rfl rfl (by omega) rfl fun p hp => by
      have su : fSum [.lst (qs.map fun p : Nat => D.int (p : Int))] = .ok (.int ((qs.sum : Nat) : Int)) := by
        show (match allI (qs.map fun p : Nat => D.int (p : Int)) with | some ns => Res.ok (D.int ns.sum) | none => .stuck) = _
        rw [allI_nat]
        show Res.ok (D.int _) = _
        rw [sum_nat]
      have lo := low_ok (t := (p : Int)) (b := ((qs.sum : Nat) : Int)) (by omega) (by
        have : qs.sum < 2 ^ 840 := Nat.lt_of_le_of_lt (by rw [hq]; exact hT) (by decide : 100 < 2 ^ 840)
        rwa [Int.natAbs_natCast])
      exact blk_yes (ε1 := [.ow [.int a3, .int b3], .pu (.int (1 + (m : Int))), .pu (.lst (qs.map fun p : Nat => D.int (p : Int))), .pu (.int (p : Int))]) rfl rfl (eCB_ok (aCons_ok (by rfl) (aCons_ok (eCB_ok (by rfl) su) aNil_ok)) lo) rfl
    rwa [List.filter_eq_self.mpr fun _ _ => rfl] at t
  have st : startC 4 [.int a, .int b] [] = [.ow [.int a, .int b], .em, .em, .em] := rfl
  show outC (b__law_lives (startC 4 [.int a, .int b] [])) = _
  rw [st]
  have s1 : sTg (tName 1) (eOp dAdd (eC (.int 1)) (eCallC 0 g__law_roll (aCons (eC (.int 5)) aNil))) [.ow [.int a, .int b], .em, .em, .em] = .nx (LS [.int a1, .int b1] (.int (1 + (m : Int)))) := by
    simp [LS, eCallC, e1]
  have s2 : sTg (tName 2) (eOp dAdd (eL (eComp [3] CS1__law_lives CT1__law_lives CP1__law_lives CE1__law_lives)) (eL (aCons (eOp dAdd (eC (.int 1)) (eCallC 0 g__law_roll (aCons (eC (.int 9)) aNil))) aNil))) (LS [.int a1, .int b1] (.int (1 + (m : Int)))) = .nx E :=
    sTg_ok (eOp_ok (eL_ok cm) lst app) rfl
  have s3 : sRet (eCB fTuple (aCons (eL (eComp [3] CS2__law_lives CT2__law_lives CP2__law_lives CE2__law_lives)) aNil)) E = .rt (.tup (qs.map fun p => rd (fr qs.sum p))) E := sRet_v (eCB_ok (aCons_ok (eL_ok cm2) aNil_ok) rfl)
  unfold b__law_lives
  rw [sSeq_nx s1, sSeq_nx s2, s3, List.map_map]
  rfl
theorem errors_ok : g__law_errors [] = .ok (.bl true) := by kernel_rfl
end W64
namespace W64
open PySem L2 PL
abbrev q (a b : Int) : D := .tup [.int a, .int b]
theorem bd_dec {q : Rat} {B : Nat} (h : 0 < B) (h1 : (q * (B : Rat)).den = 1) (h2 : (q * (B : Rat)).num.natAbs ≤ B) : Bd q B B := by
  refine ⟨h, (q * (B : Rat)).num, ?_, h2⟩
  have r := rat_nd (q * (B : Rat))
  rw [r, h1]
  have : ((1 : Nat) : Rat) = 1 := rfl
  rw [this, Rat.mul_one]
theorem lv_dec {L : List Rat} {B : Nat} (h : (decide (1 ≤ L.length) && decide (L.length ≤ 12) && decide (0 < B) && decide (B ≤ 100) && L.all (fun q => decide (0 ≤ q) && decide ((q * (B : Rat)).den = 1) && decide ((q * (B : Rat)).num.natAbs ≤ B)) && decide (sm (ff L) L.length = 1) && decide (0 < ff L (L.length - 1))) = true) : Lv L B := by
  simp only [Bool.and_eq_true, decide_eq_true_eq, List.all_eq_true] at h
  obtain ⟨⟨⟨⟨⟨⟨h1, h2⟩, h3⟩, h4⟩, h5⟩, h6⟩, h7⟩ := h
  exact ⟨h1, h2, h3, h4, fun q hq => (h5 q hq).1.1, fun q hq => bd_dec h3 (h5 q hq).1.2 (h5 q hq).2, h6, h7⟩
abbrev half : D := .tup [q 1 2, q 1 2]
abbrev second : D := .tup [q 0 1, q 1 1]
abbrev gap : D := .tup [q 1 4, q 0 1, q 3 4]
theorem row (L : List Rat) (B N : Nat) (d : D) (h : Lv L B) (hN : N ≤ 30) (e : lv L = d) : g__law_right [d, .int (N : Int)] = .ok (.bl true) := by
  rw [← e]
  exact right_ok h hN
theorem w1 : g__law_right [gap, .int 12] = .ok (.bl true) := row [1/4, 0, 3/4] 4 12 _ (lv_dec (by decide +kernel)) (by decide) (by kernel_rfl)
theorem w2 : g__law_right [half, .int 30] = .ok (.bl true) := row [1/2, 1/2] 2 30 _ (lv_dec (by decide +kernel)) (by decide) (by kernel_rfl)
theorem w3 : g__law_right [second, .int 7] = .ok (.bl true) := row [0, 1] 1 7 _ (lv_dec (by decide +kernel)) (by decide) (by kernel_rfl)
theorem w4 : g__law_right [.tup [q 1 1], .int 5] = .ok (.bl true) := row [1] 1 5 _ (lv_dec (by decide +kernel)) (by decide) (by kernel_rfl)
theorem w5 : g__law_right [.tup [q 0 1, q 0 1, q 0 1, q 0 1, q 0 1, q 0 1, q 0 1, q 0 1, q 0 1, q 0 1, q 0 1, q 1 1], .int 30] = .ok (.bl true) := row [0, 0, 0, 0, 0, 0, 0, 0, 0, 0, 0, 1] 1 30 _ (lv_dec (by decide +kernel)) (by decide) (by kernel_rfl)
theorem w6 : g__law_right [.tup [q 0 1, q 1 3, q 2 3], .int 9] = .ok (.bl true) := row [0, 1/3, 2/3] 3 9 _ (lv_dec (by decide +kernel)) (by decide) (by kernel_rfl)
theorem w7 : g__law_right [.tup [q 1 3, q 0 1, q 2 3], .int 9] = .ok (.bl true) := row [1/3, 0, 2/3] 3 9 _ (lv_dec (by decide +kernel)) (by decide) (by kernel_rfl)
theorem w8 : g__law_right [.tup [q 1 6, q 1 3, q 1 2], .int 8] = .ok (.bl true) := row [1/6, 1/3, 1/2] 6 8 _ (lv_dec (by decide +kernel)) (by decide) (by kernel_rfl)
theorem w9 : g__law_right [.tup [q 1 12, q 1 12, q 1 12, q 1 12, q 1 12, q 1 12, q 1 12, q 1 12, q 1 12, q 1 12, q 1 12, q 1 12], .int 14] = .ok (.bl true) := row [1/12, 1/12, 1/12, 1/12, 1/12, 1/12, 1/12, 1/12, 1/12, 1/12, 1/12, 1/12] 12 14 _ (lv_dec (by decide +kernel)) (by decide) (by kernel_rfl)
theorem w10 : g__law_right [.tup [q 99 100, q 1 100], .int 6] = .ok (.bl true) := row [99/100, 1/100] 100 6 _ (lv_dec (by decide +kernel)) (by decide) (by kernel_rfl)
theorem x1 : g_new_chances [half, .int 3] = .ok (.tup [q 1 1, q 1 2, q 3 4, q 5 8]) := by kernel_rfl
theorem x2 : g_count_new [half, .int 2] = .ok (q 5 4) := by kernel_rfl
theorem x3 : g_mean_life [half] = .ok (q 3 2) := by kernel_rfl
theorem x4 : g_ages_at [half, .int 2] = .ok (.tup [q 3 4, q 1 4]) := by kernel_rfl
theorem x5 : g_long_ages [half] = .ok (.tup [q 2 3, q 1 3]) := by kernel_rfl
theorem x6 : g_new_chances [second, .int 4] = .ok (.tup [q 1 1, q 0 1, q 1 1, q 0 1, q 1 1]) := by kernel_rfl
theorem x7 : g_ages_at [second, .int 3] = .ok (.tup [q 0 1, q 1 1]) := by kernel_rfl
theorem x8 : g_mean_life [gap] = .ok (q 5 2) := by kernel_rfl
theorem x9 : g_long_ages [gap] = .ok (.tup [q 2 5, q 3 10, q 3 10]) := by kernel_rfl
theorem x10 : g_ages_at [gap, .int 0] = .ok (.tup [q 1 1, q 0 1, q 0 1]) := by kernel_rfl
theorem x11 : g_new_chances [gap, .int 3] = .ok (.tup [q 1 1, q 1 4, q 1 16, q 49 64]) := by kernel_rfl
theorem x12 : g_ages_at [gap, .int 3] = .ok (.tup [q 49 64, q 3 64, q 3 16]) := by kernel_rfl
theorem x13 : g_count_new [gap, .int 4] = .ok (q 373 256) := by kernel_rfl
abbrev told1 : List D := [.tup [q 1 1, q 1 2, q 3 4, q 5 8], q 5 4, q 3 2, .tup [q 3 4, q 1 4], .tup [q 2 3, q 1 3], .tup [q 1 1, q 0 1, q 1 1, q 0 1, q 1 1]]
abbrev told2 : List D := told1 ++ [.tup [q 0 1, q 1 1], q 5 2, .tup [q 2 5, q 3 10, q 3 10], .tup [q 1 1, q 0 1, q 0 1]]
abbrev due1 : List D := [.tup [q 1 1, q 1 2, q 3 4, q 5 8], q 5 4, q 3 2]
abbrev told3 : List D := [.tup [q 1 1, q 1 4, q 1 16, q 49 64], .tup [q 49 64, q 3 64, q 3 16], q 373 256]
abbrev rows1 : List D := [.tup [gap, .int 12], .tup [half, .int 30], .tup [second, .int 7], .tup [.tup [q 1 1], .int 5], .tup [.tup [q 0 1, q 0 1, q 0 1, q 0 1, q 0 1, q 0 1, q 0 1, q 0 1, q 0 1, q 0 1, q 0 1, q 1 1], .int 30], .tup [.tup [q 0 1, q 1 3, q 2 3], .int 9]]
abbrev rows2 : List D := rows1 ++ [.tup [.tup [q 1 3, q 0 1, q 2 3], .int 9], .tup [.tup [q 1 6, q 1 3, q 1 2], .int 8], .tup [.tup [q 1 12, q 1 12, q 1 12, q 1 12, q 1 12, q 1 12, q 1 12, q 1 12, q 1 12, q 1 12, q 1 12, q 1 12], .int 14]]
theorem l1 : g__law_like 12 [.lst told2, .lst told2] = .ok (.bl true) := by kernel_rfl
theorem l2 : g__law_like 12 [.lst told3, .lst told3] = .ok (.bl true) := by kernel_rfl
def S (ns : List Int) (cs : List D) (t : Slot) : Ev := [.pu (.scr ns), .ow cs, t, .em, .em, .em, .em, .em, .em, .em, .em]
theorem turn_ok (ns : List Int) (a b : Int) (t : Slot) : ∃ (a' b' : Int), B1_law (S ns [.int a, .int b] t) = .nx (S ns [.int a', .int b'] t) := by
  obtain ⟨L, B, a1, b1, v, e1⟩ := lives_draw a b
  obtain ⟨N, a2, b2, hN, e2⟩ := roll_ok a1 b1 9 9 rfl (by decide) (by decide)
  have r := right_ok v (N := N) (by omega)
  refine ⟨a2, b2, sIfN_ok (ε1 := S ns [.int a2, .int b2] t) (eCB_ok (ds := [lv L, .int (N : Int)]) ?_ r)⟩
  have c1 : eCallC 1 g__law_lives aNil (S ns [.int a, .int b] t) = .ok (lv L, S ns [.int a1, .int b1] t) := by
    have g0 : getOw (S ns [.int a, .int b] t) 1 = .ok [.int a, .int b] := rfl
    simp only [eCallC, g0, aNil, e1, Res.bind_ok, Res.ne]
    rfl
  have c2 : eCallC 1 g__law_roll (aCons (eC (.int 9)) aNil) (S ns [.int a1, .int b1] t) = .ok (.int (N : Int), S ns [.int a2, .int b2] t) := by
    have g0 : getOw (S ns [.int a1, .int b1] t) 1 = .ok [.int a1, .int b1] := rfl
    have g1 : aCons (eC (.int 9)) aNil (S ns [.int a1, .int b1] t) = .ok ([.int 9], S ns [.int a1, .int b1] t) := rfl
    simp only [eCallC, g0, g1, e2, Res.bind_ok, Res.ne]
    rfl
  exact aCons_ok c1 (aCons_ok c2 aNil_ok)
theorem turns_ok (ns : List Int) : ∀ (xs : List D) (a b : Int) (t : Slot), ∃ (a' b' : Int) (t' : Slot), forF T1_law B1_law xs (S ns [.int a, .int b] t) = .nx (S ns [.int a', .int b'] t')
  | [], a, b, t => ⟨a, b, t, rfl⟩
  | x :: xs, a, b, t => by
    obtain ⟨a1, b1, e1⟩ := turn_ok ns a b (.pu x)
    obtain ⟨a2, b2, t2, e2⟩ := turns_ok ns xs a1 b1 (.pu x)
    refine ⟨a2, b2, t2, ?_⟩
    have t1 : T1_law x (S ns [.int a, .int b] t) = .ok (S ns [.int a, .int b] (.pu x)) := rfl
    simp only [forF, t1, Res.ne, e1, e2]
theorem row_step {l m : D} {x0 x1 x2 x3 x4 x5 x6 x7 x8 t9 t10 : Slot} {xs : List D} (h : g__law_right [l, m] = .ok (.bl true)) : forF T2_law B2_law (.tup [l, m] :: xs) [x0, x1, x2, x3, x4, x5, x6, x7, x8, t9, t10] = forF T2_law B2_law xs [x0, x1, x2, x3, x4, x5, x6, x7, x8, .pu l, .pu m] := by
  have t1 : T2_law (.tup [l, m]) [x0, x1, x2, x3, x4, x5, x6, x7, x8, t9, t10] = .ok [x0, x1, x2, x3, x4, x5, x6, x7, x8, .pu l, .pu m] := by rfl
  have b1 : B2_law [x0, x1, x2, x3, x4, x5, x6, x7, x8, .pu l, .pu m] = .nx [x0, x1, x2, x3, x4, x5, x6, x7, x8, .pu l, .pu m] := sIfN_ok (eCB_ok rfl h)
  simp only [forF, t1, Res.ne, b1]
theorem law_true (ns : List Int) (hl : ns.length ≤ 63) : g_law [.scr ns] = .ok (.bl true) := by
  obtain ⟨a0, b0, e0⟩ := cup_ok ns hl
  obtain ⟨a2, b2, s2, e2⟩ := turns_ok ns [.int 0, .int 1, .int 2, .int 3, .int 4, .int 5, .int 6] a0 b0 .em
  show outRes (b_law (startE 11 [.scr ns])) = _
  have st : startE 11 [.scr ns] = [.pu (.scr ns), .em, .em, .em, .em, .em, .em, .em, .em, .em, .em] := rfl
  rw [st]
  unfold b_law
  refine out_seq (ε1 := S ns [.int a0, .int b0] .em) ?_ ?_
  · have v0 : aCons (eV 0) aNil [.pu (.scr ns), .em, .em, .em, .em, .em, .em, .em, .em, .em, .em] = .ok ([.scr ns], [.pu (.scr ns), .em, .em, .em, .em, .em, .em, .em, .em, .em, .em]) := rfl
    simp only [sOwn, eCallN, v0, e0, Res.bind_ok, Res.ne, Res.out]
    rfl
  refine out_seq (ε1 := S ns [.int a2, .int b2] s2) ?_ ?_
  · have src : S1_law (S ns [.int a0, .int b0] .em) = .ok ([.int 0, .int 1, .int 2, .int 3, .int 4, .int 5, .int 6], S ns [.int a0, .int b0] .em) := by kernel_rfl
    exact sFor_ok src e2
  unfold S
  generalize Slot.pu (D.scr ns) = x0
  generalize Slot.ow [D.int a2, D.int b2] = x1
  refine out_seq (ε1 := [x0, x1, s2, .pu half, .pu second, .pu gap, .em, .em, .em, .em, .em]) (by kernel_rfl) ?_
  refine out_seq (ε1 := [x0, x1, s2, .pu half, .pu second, .pu gap, .pu (.lst told1), .em, .em, .em, .em]) (sTg_ok (eL_ok (aCons_ok (eCB_ok rfl W64.x1) (aCons_ok (eCB_ok rfl W64.x2) (aCons_ok (eCB_ok rfl W64.x3) (aCons_ok (eCB_ok rfl W64.x4) (aCons_ok (eCB_ok rfl W64.x5) (aCons_ok (eCB_ok rfl W64.x6) aNil_ok))))))) rfl) ?_
  refine out_seq (ε1 := [x0, x1, s2, .pu half, .pu second, .pu gap, .pu (.lst told2), .em, .em, .em, .em]) (sTg_ok (eOp_ok (a := .lst told1) rfl (eL_ok (aCons_ok (eCB_ok rfl W64.x7) (aCons_ok (eCB_ok rfl W64.x8) (aCons_ok (eCB_ok rfl W64.x9) (aCons_ok (eCB_ok rfl W64.x10) aNil_ok))))) rfl) rfl) ?_
  refine out_seq (ε1 := [x0, x1, s2, .pu half, .pu second, .pu gap, .pu (.lst told2), .pu (.lst due1), .em, .em, .em]) (by kernel_rfl) ?_
  refine out_seq (ε1 := [x0, x1, s2, .pu half, .pu second, .pu gap, .pu (.lst told2), .pu (.lst (due1 ++ [.tup [q 3 4, q 1 4], .tup [q 2 3, q 1 3], .tup [q 1 1, q 0 1, q 1 1, q 0 1, q 1 1]])), .em, .em, .em]) (by kernel_rfl) ?_
  refine out_seq (ε1 := [x0, x1, s2, .pu half, .pu second, .pu gap, .pu (.lst told2), .pu (.lst (due1 ++ [.tup [q 3 4, q 1 4], .tup [q 2 3, q 1 3], .tup [q 1 1, q 0 1, q 1 1, q 0 1, q 1 1]])), .em, .em, .em]) (sIfN_ok (eCB_ok (ds := [.lst told2, .lst told2]) (by kernel_rfl) W64.l1)) ?_
  refine out_seq (ε1 := [x0, x1, s2, .pu half, .pu second, .pu gap, .pu (.lst told3), .pu (.lst (due1 ++ [.tup [q 3 4, q 1 4], .tup [q 2 3, q 1 3], .tup [q 1 1, q 0 1, q 1 1, q 0 1, q 1 1]])), .em, .em, .em]) (sTg_ok (eL_ok (aCons_ok (eCB_ok rfl W64.x11) (aCons_ok (eCB_ok rfl W64.x12) (aCons_ok (eCB_ok rfl W64.x13) aNil_ok)))) rfl) ?_
  generalize D.lst (due1 ++ [.tup [q 3 4, q 1 4], .tup [q 2 3, q 1 3], .tup [q 1 1, q 0 1, q 1 1, q 0 1, q 1 1]]) = x7
  refine out_seq (ε1 := [x0, x1, s2, .pu half, .pu second, .pu gap, .pu (.lst told3), .pu x7, .em, .em, .em]) (sIfN_ok (eCB_ok (ds := [.lst told3, .lst told3]) (by kernel_rfl) W64.l2)) ?_
  generalize D.lst told3 = x6
  refine out_seq (ε1 := [x0, x1, s2, .pu half, .pu second, .pu gap, .pu x6, .pu x7, .pu (.lst rows1), .em, .em]) (by kernel_rfl) ?_
  refine out_seq (ε1 := [x0, x1, s2, .pu half, .pu second, .pu gap, .pu x6, .pu x7, .pu (.lst rows2), .em, .em]) (by kernel_rfl) ?_
  refine out_seq (ε1 := [x0, x1, s2, .pu half, .pu second, .pu gap, .pu x6, .pu x7, .pu (.lst rows2), .pu (.tup [q 99 100, q 1 100]), .pu (.int 6)]) ?_ ?_
  · have src : S2_law [x0, x1, s2, .pu half, .pu second, .pu gap, .pu x6, .pu x7, .pu (.lst rows2), .em, .em] = .ok ([.tup [gap, .int 12], .tup [half, .int 30], .tup [second, .int 7], .tup [.tup [q 1 1], .int 5], .tup [.tup [q 0 1, q 0 1, q 0 1, q 0 1, q 0 1, q 0 1, q 0 1, q 0 1, q 0 1, q 0 1, q 0 1, q 1 1], .int 30], .tup [.tup [q 0 1, q 1 3, q 2 3], .int 9], .tup [.tup [q 1 3, q 0 1, q 2 3], .int 9], .tup [.tup [q 1 6, q 1 3, q 1 2], .int 8], .tup [.tup [q 1 12, q 1 12, q 1 12, q 1 12, q 1 12, q 1 12, q 1 12, q 1 12, q 1 12, q 1 12, q 1 12, q 1 12], .int 14], .tup [.tup [q 99 100, q 1 100], .int 6]], [x0, x1, s2, .pu half, .pu second, .pu gap, .pu x6, .pu x7, .pu (.lst rows2), .em, .em]) := by kernel_rfl
    refine sFor_ok src ?_
    rw [row_step w1, row_step w2, row_step w3, row_step w4, row_step w5, row_step w6, row_step w7, row_step w8, row_step w9, row_step w10]
    rfl
  refine out_ret (d := .bl true) (ε1 := [x0, x1, s2, .pu half, .pu second, .pu gap, .pu x6, .pu x7, .pu (.lst rows2), .pu (.tup [q 99 100, q 1 100]), .pu (.int 6)]) ?_
  simp only [eCall0, errors_ok, Res.bind_ok]
end W64
open PySem PySem.W PyProof.Rows
set_option maxHeartbeats 0 in
theorem PySem.Challenge.cw_roadsfail_k64_whole_new_parts_holds : PySem.Challenge.rw_roadsfail_k64_whole_new_parts.Holds := by
  w_on; o_law; k_head; (case hw => w_witness2)
  k_fill
  refine LamX.walk_ofTs (l := PySem.Challenge.rw_roadsfail_k64_whole_new_parts) (n := 63) (k := 16) (x := "script") (CX := fun w => L2N.CX (PySem.Challenge.rw_roadsfail_k64_whole_new_parts).prog w) rfl (by decide) rfl ⟨rfl, by decide, by decide⟩ (fun w h Y => PySem.W.km_in_of Y) ?F (fun _ _ _ _ _ h => ?X)
  case X => obtain ⟨_, _, _, _, _, _, _, _, _, _, _, _, z⟩ := h; exact z
  case F =>
    intro w mg fa h Y KX G hmg
    refine' W64.all_mk W64.law_true KX G hmg ?a0 ?l0 ?c0 ?k0 ?a1 ?l1 ?c1 ?k1 ?a2 ?l2 ?c2 ?k2 ?a3 ?l3 ?c3 ?k3 ?a4 ?l4 ?c4 ?k4 ?a5 ?l5 ?c5 ?k5 ?a6 ?l6 ?c6 ?k6 ?a7 ?l7 ?c7 ?k7 ?a8 ?l8 ?c8 ?k8 ?a9 ?l9 ?c9 ?k9 ?a10 ?l10 ?c10 ?k10 ?a11 ?l11 ?c11 ?k11 ?a12 ?l12 ?c12 ?k12 ?a13 ?l13 ?c13 ?k13 ?a14 ?l14 ?c14 ?k14 ?a15 ?l15 ?c15 ?k15 ?a16 ?l16 ?c16 ?k16 ?a17 ?l17 ?c17 ?k17 ?a18 ?l18 ?c18 ?k18 ?a19 ?l19 ?c19 ?k19 ?a20 ?l20 ?c20 ?k20 ?a21 ?l21 ?c21 ?k21 ?a22 ?l22 ?c22 ?k22 ?a23 ?l23 ?c23 ?k23 ?a24 ?l24 ?c24 ?k24 ?a25 ?l25 ?c25 ?k25 ?a26 ?l26 ?c26 ?k26 ?a27 ?l27 ?c27 ?k27 ?a28 ?l28 ?c28 ?k28 ?a29 ?l29 ?c29 ?k29 ?a30 ?l30 ?c30 ?k30 ?a31 ?l31 ?c31 ?k31 ?a32 ?l32 ?c32 ?k32 ?a33 ?l33 ?c33 ?k33 ?a34 ?l34 ?c34 ?k34 ?a35 ?l35 ?c35 ?k35 ?tb35 ?tc35 ?ch35 ?nl35 ?hp35 ?a36 ?l36 ?c36 ?k36 ?nd ?z_isinstance ?z_int ?z_bool ?z_tuple ?z_len ?z_all ?z_range ?z_enumerate ?z_abs ?z_list ?z_str ?z_zip ?z_sum ?m_gcd ?c_GREAT ?c_SMALL ?c_LONG ?c_STEPS ?ea0 ?eb0 ?ec0 ?ed0 ?ee0 ?ea1 ?eb1 ?ec1 ?ed1 ?ee1 ?ra ?xg0 ?xk0 ?xs0 ?xd0 ?xa0 ?xm0 ?xg1 ?xk1 ?xs1 ?xd1 ?xa1 ?xm1 ?xn ?xt ?q0_0 ?q0_1 ?w0 ?q1_0 ?q1_1 ?w1
    (case a0 => k_is); (case l0 => k_is); (case c0 => k_is); (case k0 => k_is); (case a1 => k_is); (case l1 => k_is); (case c1 => k_is); (case k1 => k_is)
    (case a2 => k_is); (case l2 => k_is); (case c2 => k_is); (case k2 => k_is); (case a3 => k_is); (case l3 => k_is); (case c3 => k_is); (case k3 => k_is)
    (case a4 => k_is); (case l4 => k_is); (case c4 => k_is); (case k4 => k_is); (case a5 => k_is); (case l5 => k_is); (case c5 => k_is); (case k5 => k_is)
    (case a6 => k_is); (case l6 => k_is); (case c6 => k_is); (case k6 => k_is); (case a7 => k_is); (case l7 => k_is); (case c7 => k_is); (case k7 => k_is)
    (case a8 => k_is); (case l8 => k_is); (case c8 => k_is); (case k8 => k_is); (case a9 => k_is); (case l9 => k_is); (case c9 => k_is); (case k9 => k_is)
    (case a10 => k_is); (case l10 => k_is); (case c10 => k_is); (case k10 => k_is); (case a11 => k_is); (case l11 => k_is); (case c11 => k_is); (case k11 => k_is)
    (case a12 => k_is); (case l12 => k_is); (case c12 => k_is); (case k12 => k_is); (case a13 => k_is); (case l13 => k_is); (case c13 => k_is); (case k13 => k_is)
    (case a14 => k_is); (case l14 => k_is); (case c14 => k_is); (case k14 => k_is); (case a15 => k_is); (case l15 => k_is); (case c15 => k_is); (case k15 => k_is)
    (case a16 => k_is); (case l16 => k_is); (case c16 => k_is); (case k16 => k_is); (case a17 => k_is); (case l17 => k_is); (case c17 => k_is); (case k17 => k_is)
    (case a18 => k_is); (case l18 => k_is); (case c18 => k_is); (case k18 => k_is); (case a19 => k_is); (case l19 => k_is); (case c19 => k_is); (case k19 => k_is)
    (case a20 => k_is); (case l20 => k_is); (case c20 => k_is); (case k20 => k_is); (case a21 => k_is); (case l21 => k_is); (case c21 => k_is); (case k21 => k_is)
    (case a22 => k_is); (case l22 => k_is); (case c22 => k_is); (case k22 => k_is); (case a23 => k_is); (case l23 => k_is); (case c23 => k_is); (case k23 => k_is)
    (case a24 => k_is); (case l24 => k_is); (case c24 => k_is); (case k24 => k_is); (case a25 => k_is); (case l25 => k_is); (case c25 => k_is); (case k25 => k_is)
    (case a26 => k_is); (case l26 => k_is); (case c26 => k_is); (case k26 => k_is); (case a27 => k_is); (case l27 => k_is); (case c27 => k_is); (case k27 => k_is)
    (case a28 => k_is); (case l28 => k_is); (case c28 => k_is); (case k28 => k_is); (case a29 => k_is); (case l29 => k_is); (case c29 => k_is); (case k29 => k_is)
    (case a30 => k_is); (case l30 => k_is); (case c30 => k_is); (case k30 => k_is); (case a31 => k_is); (case l31 => k_is); (case c31 => k_is); (case k31 => k_is)
    (case a32 => k_is); (case l32 => k_is); (case c32 => k_is); (case k32 => k_is); (case a33 => k_is); (case l33 => k_is); (case c33 => k_is); (case k33 => k_is)
    (case a34 => k_is); (case l34 => k_is); (case c34 => k_is); (case k34 => k_is); (case a35 => k_is); (case l35 => k_is); (case c35 => k_is); (case k35 => k_is)
    (case tb35 => k_is); (case tc35 => rfl); (case a36 => k_is); (case l36 => k_is); (case c36 => k_is); (case k36 => k_is); (case z_isinstance => k_is); (case z_int => k_is)
    (case z_bool => k_is); (case z_tuple => k_is); (case z_len => k_is); (case z_all => k_is); (case z_range => k_is); (case z_enumerate => k_is); (case z_abs => k_is); (case z_list => k_is)
    (case z_str => k_is); (case z_zip => k_is); (case z_sum => k_is); (case m_gcd => k_is); (case c_GREAT => k_is); (case c_SMALL => k_is); (case c_LONG => k_is); (case c_STEPS => k_is)
    (case ea0 => k_is); (case eb0 => k_exc); (case ec0 => k_is); (case ed0 => k_is); (case ee0 => k_is); (case ea1 => k_is); (case eb1 => k_exc); (case ec1 => k_is)
    (case ed1 => k_is); (case ee1 => k_is); (case ra => k_is); (case xg0 => k_is); (case xk0 => k_is); (case xs0 => k_is); (case xd0 => k_is); (case xa0 => k_is)
    (case xm0 => k_is); (case xg1 => k_is); (case xk1 => k_is); (case xs1 => k_is); (case xd1 => k_is); (case xa1 => k_is); (case xm1 => k_is); (case xn => k_is)
    (case xt => k_is); (case ch35 => kernel_rfl); (case nl35 => kernel_rfl); (case hp35 => exact PySem.W.km_tabs_of Y _ (by simp)); (case nd => decide); (case q0_0 => kernel_rfl); (case q0_1 => kernel_rfl); (case w0 => kernel_rfl)
    (case q1_0 => kernel_rfl); (case q1_1 => kernel_rfl); (case w1 => kernel_rfl)
