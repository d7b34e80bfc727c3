import PyProof.Rows.All
import Wide.All
import OpenK.AllK
import Wide.FinOn
import PySem.Challenge.RW_roadsfail_k41_whole_bad_runs
import HandS.ForMost
import HandS.ForExc
import HandS.Wide
import HandS.Gcd
import HandS.Style
import HandS.Zip
import HandS.IsInst
import HandS.Flow
import HandS.Lambda
import HandS.ExcIs
import HandS.ExcSuper
import HandS.ExcCtx
import HandS.Hot
import HandS.HotCalls
import HandS.EndTab
import HandS.TupMul
import HandS.Conv
import HandS.TupAny
import KE.KMathGC
import KE.GoesEnum
import HandS.CallLocal
import KE.SortData
set_option Elab.async false
set_option linter.all false
set_option maxRecDepth 100000
set_option maxHeartbeats 4000000
/-! PL, part a: data, slots, the relation of a frame's pure state to its heap, steps. -/
namespace PL
open PySem PySem.Spec PyProof.Rows L2

inductive D where
  | non | bl (b : Bool) | int (i : Int) | str (x : Str) | tup (ds : List D) | lst (ds : List D) | fn (k : Nat) | scr (ns : List Int)

inductive Slot where
  | em | pu (d : D) | ow (ds : List D)

abbrev St := L2.St
abbrev Ev := List Slot

inductive Res (α : Type) where
  | ok (a : α) | err (c : Nat) | stuck

namespace Res
variable {α β γ : Type}
def bind (r : Res α) (f : α → Res β) : Res β := match r with
  | .ok a => f a
  | .err c => .err c
  | .stuck => .stuck
@[simp] theorem bind_ok (a : α) (f : α → Res β) : (Res.ok a).bind f = f a := rfl
@[simp] theorem bind_err (c : Nat) (f : α → Res β) : (Res.err c : Res α).bind f = .err c := rfl
@[simp] theorem bind_stuck (f : α → Res β) : (Res.stuck : Res α).bind f = .stuck := rfl
end Res

/-- what is the same for a whole law -/
structure Fx where
  K : PySem.W.Frag
  fa : Nat → Addr
  ca : Nat → Addr
  T : List (Addr × Str)
/-- .. and a frame's own mutable argument -/
structure Fr where
  F : Fx
  cp : Option Addr

mutual
def Rp (F : Fx) (G : Hp) : D → V → Prop
  | .non, v => v = .non
  | .bl b, v => v = .bl b
  | .int i, v => v = .int i
  | .str x, v => v = .str x
  | .fn k, v => v = .ref (F.fa k)
  | .scr ns, v => ∃ a, v = .ref a ∧ SqL F.K G a (ns.map V.int)
  | .tup ds, v => ∃ a vs, v = .ref a ∧ SqT F.K G a vs ∧ RpL F G ds vs
  | .lst ds, v => ∃ a vs, v = .ref a ∧ G a = some (.lst vs) ∧ RpL F G ds vs
def RpL (F : Fx) (G : Hp) : List D → List V → Prop
  | [], vs => vs = []
  | d :: ds, vs => ∃ v r, vs = v :: r ∧ Rp F G d v ∧ RpL F G ds r
end

theorem sqT_mono {K : PySem.W.Frag} {G G' : Hp} (h : ∀ q o, G q = some o → G' q = some o) {a : Addr} {xs : List V} (s : SqT K G a xs) : SqT K G' a xs := by
  rcases s with (s | ⟨o, s⟩) | s
  · exact .inl (.inl (h _ _ s))
  · exact .inl (.inr ⟨o, h _ _ s⟩)
  · exact .inr s

theorem sqL_mono {K : PySem.W.Frag} {G G' : Hp} (h : ∀ q o, G q = some o → G' q = some o) {a : Addr} {xs : List V} (s : SqL K G a xs) : SqL K G' a xs := by
  rcases s with (s | ⟨o, s⟩) | s
  · exact .inl (.inl (h _ _ s))
  · exact .inl (.inr ⟨o, h _ _ s⟩)
  · exact .inr s

mutual
theorem Rp.mono {F : Fx} {G G' : Hp} (h : ∀ q o, G q = some o → G' q = some o) : ∀ (d : D) (v : V), Rp F G d v → Rp F G' d v
  | .non, _, r => r
  | .bl _, _, r => r
  | .int _, _, r => r
  | .str _, _, r => r
  | .fn _, _, r => r
  | .scr ns, _, r => by
    simp only [Rp] at r ⊢
    obtain ⟨a, e, s⟩ := r
    exact ⟨a, e, sqL_mono h s⟩
  | .tup ds, _, r => by
    simp only [Rp] at r ⊢
    obtain ⟨a, vs, e, s, l⟩ := r
    exact ⟨a, vs, e, sqT_mono h s, RpL.mono h ds vs l⟩
  | .lst ds, _, r => by
    simp only [Rp] at r ⊢
    obtain ⟨a, vs, e, s, l⟩ := r
    exact ⟨a, vs, e, h _ _ s, RpL.mono h ds vs l⟩
theorem RpL.mono {F : Fx} {G G' : Hp} (h : ∀ q o, G q = some o → G' q = some o) : ∀ (ds : List D) (vs : List V), RpL F G ds vs → RpL F G' ds vs
  | [], _, r => r
  | d :: ds, _, r => by
    simp only [RpL] at r ⊢
    obtain ⟨v, vs, e, s, l⟩ := r
    exact ⟨v, vs, e, Rp.mono h d v s, RpL.mono h ds vs l⟩
end

theorem RpL.nil {F : Fx} {G : Hp} : RpL F G [] [] := by simp only [RpL]
theorem RpL.cons {F : Fx} {G : Hp} {d : D} {ds : List D} {v : V} {vs : List V} (a : Rp F G d v) (b : RpL F G ds vs) : RpL F G (d :: ds) (v :: vs) := by
  simp only [RpL]; exact ⟨v, vs, rfl, a, b⟩
theorem RpL.of_cons {F : Fx} {G : Hp} {d : D} {ds : List D} {vs : List V} (h : RpL F G (d :: ds) vs) : ∃ v r, vs = v :: r ∧ Rp F G d v ∧ RpL F G ds r := by
  simpa only [RpL] using h
theorem RpL.of_nil {F : Fx} {G : Hp} {vs : List V} (h : RpL F G [] vs) : vs = [] := by simpa only [RpL] using h
theorem RpL.length {F : Fx} {G : Hp} : ∀ {ds : List D} {vs : List V}, RpL F G ds vs → ds.length = vs.length
  | [], vs, h => by rw [h.of_nil]; rfl
  | d :: ds, vs, h => by
    obtain ⟨v, r, rfl, _, l⟩ := h.of_cons
    simp [l.length]
theorem RpL.append {F : Fx} {G : Hp} : ∀ {ds es : List D} {vs ws : List V}, RpL F G ds vs → RpL F G es ws → RpL F G (ds ++ es) (vs ++ ws)
  | [], _, vs, _, h, k => by rw [h.of_nil]; exact k
  | d :: ds, _, vs, _, h, k => by
    obtain ⟨v, r, rfl, a, l⟩ := h.of_cons
    exact RpL.cons a (l.append k)
theorem RpL.get {F : Fx} {G : Hp} : ∀ {ds : List D} {vs : List V} {i : Nat} {d : D}, RpL F G ds vs → ds[i]? = some d → ∃ v, vs[i]? = some v ∧ Rp F G d v
  | [], _, _, _, _, e => by simp at e
  | d :: ds, vs, 0, x, h, e => by
    obtain ⟨v, r, rfl, a, l⟩ := h.of_cons
    simp at e; subst e
    exact ⟨v, rfl, a⟩
  | d :: ds, vs, i + 1, x, h, e => by
    obtain ⟨v, r, rfl, a, l⟩ := h.of_cons
    simp at e
    obtain ⟨w, e1, e2⟩ := l.get (i := i) e
    exact ⟨w, by simpa using e1, e2⟩
theorem RpL.getV {F : Fx} {G : Hp} {ds : List D} {vs : List V} {i : Nat} {v : V} (h : RpL F G ds vs) (e : vs[i]? = some v) : ∃ d, ds[i]? = some d ∧ Rp F G d v := by
  have hi : i < ds.length := by
    rw [h.length]
    exact (List.getElem?_eq_some_iff.mp e).1
  obtain ⟨w, e1, r⟩ := h.get (d := ds[i]) (List.getElem?_eq_getElem hi)
  rw [e] at e1
  cases e1
  exact ⟨_, List.getElem?_eq_getElem hi, r⟩
theorem RpL.take {F : Fx} {G : Hp} : ∀ (n : Nat) {ds : List D} {vs : List V}, RpL F G ds vs → RpL F G (ds.take n) (vs.take n)
  | 0, _, _, _ => RpL.nil
  | n + 1, [], vs, h => by rw [h.of_nil]; exact RpL.nil
  | n + 1, d :: ds, vs, h => by
    obtain ⟨v, r, rfl, a, l⟩ := h.of_cons
    exact RpL.cons a (l.take n)
theorem RpL.drop {F : Fx} {G : Hp} : ∀ (n : Nat) {ds : List D} {vs : List V}, RpL F G ds vs → RpL F G (ds.drop n) (vs.drop n)
  | 0, _, _, h => h
  | n + 1, [], vs, h => by rw [h.of_nil]; exact RpL.nil
  | n + 1, d :: ds, vs, h => by
    obtain ⟨v, r, rfl, a, l⟩ := h.of_cons
    exact l.drop n
theorem RpL.set {F : Fx} {G : Hp} {d : D} {v : V} (r : Rp F G d v) : ∀ (n : Nat) {ds : List D} {vs : List V}, RpL F G ds vs → RpL F G (ds.set n d) (vs.set n v)
  | _, [], vs, h => by rw [h.of_nil]; exact RpL.nil
  | 0, e :: ds, vs, h => by
    obtain ⟨w, q, rfl, a, l⟩ := h.of_cons
    exact RpL.cons r l
  | n + 1, e :: ds, vs, h => by
    obtain ⟨w, q, rfl, a, l⟩ := h.of_cons
    exact RpL.cons a (l.set r n)
theorem RpL.reverse {F : Fx} {G : Hp} : ∀ {ds : List D} {vs : List V}, RpL F G ds vs → RpL F G ds.reverse vs.reverse
  | [], vs, h => by rw [h.of_nil]; exact RpL.nil
  | d :: ds, vs, h => by
    obtain ⟨v, r, rfl, a, l⟩ := h.of_cons
    rw [List.reverse_cons, List.reverse_cons]
    exact l.reverse.append (RpL.cons a RpL.nil)
theorem RpL.rep {F : Fx} {G : Hp} {ds : List D} {vs : List V} (h : RpL F G ds vs) : ∀ k : Nat, RpL F G (List.replicate k ds).flatten (List.replicate k vs).flatten
  | 0 => RpL.nil
  | k + 1 => by
    rw [List.replicate_succ, List.replicate_succ, List.flatten_cons, List.flatten_cons]
    exact h.append (h.rep k)
theorem RpL.mapI {F : Fx} {G : Hp} : ∀ {ns : List Int} {vs : List V}, RpL F G (ns.map D.int) vs → vs = ns.map V.int
  | [], vs, h => h.of_nil
  | n :: ns, vs, h => by
    obtain ⟨v, r, rfl, a, l⟩ := h.of_cons
    simp only [Rp] at a
    rw [a, l.mapI]; rfl
theorem RpL.mapB {F : Fx} {G : Hp} : ∀ {ns : List Bool} {vs : List V}, RpL F G (ns.map D.bl) vs → vs = ns.map V.bl
  | [], vs, h => h.of_nil
  | n :: ns, vs, h => by
    obtain ⟨v, r, rfl, a, l⟩ := h.of_cons
    simp only [Rp] at a
    rw [a, l.mapB]; rfl
theorem RpL.mapS {F : Fx} {G : Hp} : ∀ {ns : List Str} {vs : List V}, RpL F G (ns.map D.str) vs → vs = ns.map V.str
  | [], vs, h => h.of_nil
  | n :: ns, vs, h => by
    obtain ⟨v, r, rfl, a, l⟩ := h.of_cons
    simp only [Rp] at a
    rw [a, l.mapS]; rfl

/-! ### the state of a frame -/
def Own (σ : St) (ε : Ev) (q : Addr) : Prop := ∃ (i : Nat) (ds : List D), ε[i]? = some (.ow ds) ∧ σ[i]? = some (some (.ref q))

def SlotOk (F : Fx) (G H : Hp) : Slot → Option V → Prop
  | .em, _ => True
  | .pu d, o => ∃ v, o = some v ∧ Rp F G d v
  | .ow ds, o => ∃ p vs, o = some (.ref p) ∧ G p = none ∧ H p = some (.lst vs) ∧ RpL F G ds vs

structure SR (M : Fr) (G H : Hp) (σ : St) (ε : Ev) : Prop where
  sub : ∀ q o, G q = some o → H q = some o
  ntb : ∀ q ps, G q ≠ some (.tbl ps)
  tabs : LamX.Tabs M.F.T H
  len : ε.length = σ.length
  slots : ∀ (i : Nat) (s : Slot) (o : Option V), ε[i]? = some s → σ[i]? = some o → SlotOk M.F G H s o
  inj : ∀ (i j : Nat) (ds es : List D) (q : Addr), ε[i]? = some (.ow ds) → ε[j]? = some (.ow es) → σ[i]? = some (some (.ref q)) → σ[j]? = some (some (.ref q)) → i = j
  cup : ∀ p, M.cp = some p → σ[0]? = some (some (.ref p)) ∧ ∃ ds, ε[0]? = some (.ow ds)

structure Step (G H : Hp) (O : Addr → Prop) (G' H' : Hp) (O' : Addr → Prop) : Prop where
  gg : ∀ q o, G q = some o → G' q = some o
  hh : ∀ q o, H q = some o → (∀ ps, o ≠ .tbl ps) → ¬ O q → H' q = some o
  hs : ∀ q, H' q = none → H q = none
  gn : ∀ q o, G' q = some o → G q = some o ∨ H q = none ∨ O q
  oo : ∀ q, O' q → O q ∨ H q = none

theorem Step.refl (G H : Hp) (O : Addr → Prop) : Step G H O G H O :=
  ⟨fun _ _ h => h, fun _ _ h _ _ => h, fun _ h => h, fun _ _ h => .inl h, fun _ h => .inl h⟩

theorem Step.trans {G H : Hp} {O : Addr → Prop} {G1 H1 : Hp} {O1 : Addr → Prop} {G2 H2 : Hp} {O2 : Addr → Prop}
    (sub1 : ∀ q o, G1 q = some o → H1 q = some o)
    (a : Step G H O G1 H1 O1) (b : Step G1 H1 O1 G2 H2 O2) : Step G H O G2 H2 O2 where
  gg := fun q o h => b.gg q o (a.gg q o h)
  hh := fun q o h nt no => by
    refine b.hh q o (a.hh q o h nt no) nt fun z => ?_
    rcases a.oo q z with z | z
    · exact no z
    · rw [h] at z; cases z
  hs := fun q h => a.hs q (b.hs q h)
  gn := fun q o h => by
    rcases b.gn q o h with z | z | z
    · exact a.gn q o z
    · exact .inr (.inl (a.hs q z))
    · rcases a.oo q z with y | y
      · exact .inr (.inr y)
      · exact .inr (.inl y)
  oo := fun q h => by
    rcases b.oo q h with z | z
    · exact a.oo q z
    · exact .inr (a.hs q z)

/-- a slot's address that is owned -/
theorem SR.own {M : Fr} {G H : Hp} {σ : St} {ε : Ev} (s : SR M G H σ ε) {q : Addr} (o : Own σ ε q) : G q = none ∧ ∃ vs, H q = some (.lst vs) := by
  obtain ⟨i, ds, e1, e2⟩ := o
  obtain ⟨p, vs, e3, g, h, _⟩ := s.slots i _ _ e1 e2
  cases e3
  exact ⟨g, vs, h⟩
theorem SR.lt {M : Fr} {G H : Hp} {σ : St} {ε : Ev} (s : SR M G H σ ε) {i : Nat} {x : Slot} (e : ε[i]? = some x) : ∃ o, σ[i]? = some o := by
  have h : i < ε.length := (List.getElem?_eq_some_iff.mp e).1
  rw [s.len] at h
  exact ⟨_, List.getElem?_eq_getElem h⟩
theorem SR.pu {M : Fr} {G H : Hp} {σ : St} {ε : Ev} (s : SR M G H σ ε) {i : Nat} {d : D} (e : ε[i]? = some (.pu d)) : ∃ v, σ[i]? = some (some v) ∧ Rp M.F G d v := by
  obtain ⟨o, e2⟩ := s.lt e
  obtain ⟨v, e3, r⟩ := s.slots i _ _ e e2
  subst e3
  exact ⟨v, e2, r⟩
theorem SR.ow {M : Fr} {G H : Hp} {σ : St} {ε : Ev} (s : SR M G H σ ε) {i : Nat} {ds : List D} (e : ε[i]? = some (.ow ds)) : ∃ p vs, σ[i]? = some (some (.ref p)) ∧ G p = none ∧ H p = some (.lst vs) ∧ RpL M.F G ds vs := by
  obtain ⟨o, e2⟩ := s.lt e
  obtain ⟨p, vs, e3, g, h, r⟩ := s.slots i _ _ e e2
  subst e3
  exact ⟨p, vs, e2, g, h, r⟩

/-- the heaps grow: new objects, known (in G) or not; tables may be longer -/
structure Grow (G H G' H' : Hp) : Prop where
  gg : ∀ q o, G q = some o → G' q = some o
  hh : ∀ q o, H q = some o → (∀ ps, o ≠ .tbl ps) → H' q = some o
  hs : ∀ q, H' q = none → H q = none
  gn : ∀ q o, G' q = some o → G q = some o ∨ H q = none
theorem Grow.refl (G H : Hp) : Grow G H G H := ⟨fun _ _ h => h, fun _ _ h _ => h, fun _ h => h, fun _ _ h => .inl h⟩
theorem Grow.step {G H G' H' : Hp} (g : Grow G H G' H') (O : Addr → Prop) : Step G H O G' H' O :=
  ⟨g.gg, fun q o h n _ => g.hh q o h n, g.hs, fun q o h => (g.gn q o h).elim .inl fun z => .inr (.inl z), fun _ h => .inl h⟩
/-- a frame's state over grown heaps -/
theorem SR.grow {M : Fr} {G H G' H' : Hp} {σ : St} {ε : Ev} (s : SR M G H σ ε) (g : Grow G H G' H') (sub : ∀ q o, G' q = some o → H' q = some o) (ntb : ∀ q ps, G' q ≠ some (.tbl ps)) (tabs : LamX.Tabs M.F.T H') : SR M G' H' σ ε where
  sub := sub
  ntb := ntb
  tabs := tabs
  len := s.len
  slots := fun i x o e1 e2 => by
    have h := s.slots i x o e1 e2
    cases x with
    | em => trivial
    | pu d =>
      obtain ⟨v, e, r⟩ := h
      exact ⟨v, e, r.mono g.gg⟩
    | ow ds =>
      obtain ⟨p, vs, e, n, hp, r⟩ := h
      refine ⟨p, vs, e, ?_, g.hh _ _ hp (fun ps z => by cases z), r.mono g.gg⟩
      cases q : G' p with
      | none => rfl
      | some u =>
        rcases g.gn p u q with z | z
        · rw [n] at z; cases z
        · rw [hp] at z; cases z
  inj := s.inj
  cup := s.cup
/-- one new object in both -/
theorem SR.new {M : Fr} {G H : Hp} {σ : St} {ε : Ev} (s : SR M G H σ ε) {p : Addr} {o : HO} (hp : H p = none) (ho : ∀ ps, o ≠ .tbl ps) :
    SR M (upd G p o) (upd H p o) σ ε ∧ Step G H (Own σ ε) (upd G p o) (upd H p o) (Own σ ε) := by
  have gp : G p = none := by
    cases q : G p with
    | none => rfl
    | some u => rw [s.sub p u q] at hp; cases hp
  have g : Grow G H (upd G p o) (upd H p o) := by
    refine ⟨fun q u h => ?_, fun q u h _ => ?_, fun q h => ?_, fun q u h => ?_⟩
    · rw [upd_ne (ne_of_none h gp)]; exact h
    · rw [upd_ne (ne_of_none h hp)]; exact h
    · unfold upd at h
      split at h
      · cases h
      · exact h
    · unfold upd at h
      split at h
      · rename_i e; subst e; exact .inr hp
      · exact .inl h
  refine ⟨s.grow g (fun q u h => ?_) (fun q ps h => ?_) (s.tabs.ext fun q u h => ?_), g.step _⟩
  · unfold upd at h ⊢
    split
    · rename_i e; rw [if_pos e] at h; exact h
    · rename_i e; rw [if_neg e] at h; exact s.sub q u h
  · unfold upd at h
    split at h
    · exact ho ps (Option.some.inj h)
    · exact s.ntb q ps h
  · rw [upd_ne (ne_of_none h hp)]; exact h
/-- one new object in H alone -/
theorem SR.newH {M : Fr} {G H : Hp} {σ : St} {ε : Ev} (s : SR M G H σ ε) {p : Addr} {o : HO} (hp : H p = none) :
    SR M G (upd H p o) σ ε ∧ Step G H (Own σ ε) G (upd H p o) (Own σ ε) ∧ G p = none ∧ ¬ Own σ ε p := by
  have gp : G p = none := by
    cases q : G p with
    | none => rfl
    | some u => rw [s.sub p u q] at hp; cases hp
  have g : Grow G H G (upd H p o) := by
    refine ⟨fun q u h => h, fun q u h _ => ?_, fun q h => ?_, fun q u h => .inl h⟩
    · rw [upd_ne (ne_of_none h hp)]; exact h
    · unfold upd at h
      split at h
      · cases h
      · exact h
  refine ⟨s.grow g (fun q u h => ?_) s.ntb (s.tabs.ext fun q u h => ?_), g.step _, gp, fun z => ?_⟩
  · rw [upd_ne (ne_of_none h gp)]; exact s.sub q u h
  · rw [upd_ne (ne_of_none h hp)]; exact h
  · obtain ⟨_, vs, e⟩ := s.own z
    rw [hp] at e; cases e
end PL
/-! PL, part b: the judgements of expressions and tests; names, constants, operators. -/
namespace PL
open PySem PySem.Spec PyProof.Rows L2

def ErrOk (M : Fr) (W : WX) (G H : Hp) (O : Addr → Prop) (c : Nat) : Prop :=
  ∀ (σ' : St) (G' H' : Hp) (ε' : Ev), SR M G' H' σ' ε' → Step G H O G' H' (Own σ' ε') → W (.ref (M.F.ca c)) none σ' H'

def Post {α β : Type} (M : Fr) (W : WX) (σ : St) (G H : Hp) (ε : Ev) (R : Hp → β → α → Prop) (r : Res (β × Ev)) (Q : α → Hp → Prop) : Prop :=
  match r with
  | .ok p => ∀ a G' H', SR M G' H' σ p.2 → Step G H (Own σ ε) G' H' (Own σ p.2) → R G' p.1 a → Q a H'
  | .err c => ErrOk M W G H (Own σ ε) c
  | .stuck => False

theorem ErrOk.shift {M : Fr} {W : WX} {G H G1 H1 : Hp} {O O1 : Addr → Prop} {c : Nat} (sub : ∀ q o, G1 q = some o → H1 q = some o) (st : Step G H O G1 H1 O1) (h : ErrOk M W G H O c) : ErrOk M W G1 H1 O1 c :=
  fun σ' G' H' ε' s t => h σ' G' H' ε' s (st.trans sub t)
theorem Post.shift {α β : Type} {M : Fr} {W : WX} {σ : St} {G H G1 H1 : Hp} {ε ε1 : Ev} {R : Hp → β → α → Prop} {r : Res (β × Ev)} {Q : α → Hp → Prop}
    (s1 : SR M G1 H1 σ ε1) (st : Step G H (Own σ ε) G1 H1 (Own σ ε1)) (h : Post M W σ G H ε R r Q) : Post M W σ G1 H1 ε1 R r Q := by
  cases r with
  | ok p => exact fun a G' H' s t q => h a G' H' s (st.trans s1.sub t) q
  | err c => exact ErrOk.shift s1.sub st h
  | stuck => exact h

/-- a reading keeps to a function of the slots -/
def Tr {α β : Type} (M : Fr) (W : WX) (R : Hp → β → α → Prop) (t : St → Hp → (α → Hp → Prop) → Prop) (f : Ev → Res (β × Ev)) : Prop :=
  ∀ (σ : St) (G H : Hp) (ε : Ev), SR M G H σ ε → ∀ Q : α → Hp → Prop, Post M W σ G H ε R (f ε) Q → t σ H Q

/-- one reading, then another -/
theorem Tr.bind {α β α' β' : Type} {M : Fr} {W : WX} {R : Hp → β → α → Prop} {R' : Hp → β' → α' → Prop} {t : St → Hp → (α → Hp → Prop) → Prop} {f : Ev → Res (β × Ev)}
    {t2 : α → St → Hp → (α' → Hp → Prop) → Prop} {f2 : β → Ev → Res (β' × Ev)} (h1 : Tr M W R t f)
    (h2 : ∀ (b : β) (a : α) (σ : St) (G H : Hp) (ε : Ev), SR M G H σ ε → R G b a → ∀ Q, Post M W σ G H ε R' (f2 b ε) Q → t2 a σ H Q) :
    Tr M W R' (fun σ H Q => t σ H fun a H1 => t2 a σ H1 Q) (fun ε => (f ε).bind fun p => f2 p.1 p.2) := by
  intro σ G H ε s Q hp
  refine h1 σ G H ε s _ ?_
  have hp' : Post M W σ G H ε R' ((f ε).bind fun p => f2 p.1 p.2) Q := hp
  cases e : f ε with
  | stuck => rw [e] at hp'; exact hp'
  | err c => rw [e] at hp'; exact hp'
  | ok p =>
    rw [e] at hp'
    intro a G1 H1 s1 st1 r1
    exact h2 p.1 a σ G1 H1 p.2 s1 r1 Q (hp'.shift s1 st1)

/-- two values, then an operation of values -/
def OpT (M : Fr) (W : WX) (r : R2) (op : D → D → Res D) : Prop :=
  ∀ (x y : D) (v w : V) (σ : St) (G H : Hp) (ε : Ev), SR M G H σ ε → Rp M.F G x v → Rp M.F G y w → ∀ Q : VK,
    Post M W σ G H ε (Rp M.F) ((op x y).bind fun d => .ok (d, ε)) Q → r v w H Q
def UnT (M : Fr) (W : WX) (r : V → Hp → VK → Prop) (op : D → Res D) : Prop :=
  ∀ (x : D) (v : V) (σ : St) (G H : Hp) (ε : Ev), SR M G H σ ε → Rp M.F G x v → ∀ Q : VK,
    Post M W σ G H ε (Rp M.F) ((op x).bind fun d => .ok (d, ε)) Q → r v H Q

@[reducible, simp] def eOp (op : D → D → Res D) (fa fb : Ev → Res (D × Ev)) : Ev → Res (D × Ev) := fun ε =>
  (fa ε).bind fun p => (fb p.2).bind fun q => (op p.1 q.1).bind fun d => .ok (d, q.2)
@[reducible, simp] def eUn (op : D → Res D) (fa : Ev → Res (D × Ev)) : Ev → Res (D × Ev) := fun ε =>
  (fa ε).bind fun p => (op p.1).bind fun d => .ok (d, p.2)

theorem tr_op {M : Fr} {W : WX} {r : R2} {op : D → D → Res D} {ta tb : TE} {fa fb : Ev → Res (D × Ev)} (ho : OpT M W r op) (ha : Tr M W (Rp M.F) ta fa) (hb : Tr M W (Rp M.F) tb fb) : Tr M W (Rp M.F) (tOp r ta tb) (eOp op fa fb) := by
  refine Tr.bind (f2 := fun x ε => (fb ε).bind fun q => (op x q.1).bind fun d => .ok (d, q.2)) (t2 := fun v σ H1 Q => tb σ H1 fun y H2 => r v y H2 Q) ha ?_
  intro x v σ G H ε s rx Q hp
  refine hb σ G H ε s _ ?_
  cases e : fb ε with
  | stuck => rw [e] at hp; exact hp
  | err c => rw [e] at hp; exact hp
  | ok q =>
    rw [e] at hp
    intro w G1 H1 s1 st1 ry
    exact ho x q.1 v w σ G1 H1 q.2 s1 (rx.mono st1.gg) ry Q (hp.shift s1 st1)
theorem tr_un {M : Fr} {W : WX} {r : V → Hp → VK → Prop} {op : D → Res D} {ta : TE} {fa : Ev → Res (D × Ev)} (ho : UnT M W r op) (ha : Tr M W (Rp M.F) ta fa) : Tr M W (Rp M.F) (tUn r ta) (eUn op fa) := by
  refine Tr.bind (f2 := fun x ε => (op x).bind fun d => .ok (d, ε)) (t2 := fun v σ H1 Q => r v H1 Q) ha ?_
  intro x v σ G H ε s rx Q hp
  exact ho x v σ G H ε s rx Q hp

/-! ### the context -/
structure CO (M : Fr) (W : WX) (k : Nat) (X : Cx) : Prop where
  hK : X.K = M.F.K
  calm : X.calm = true
  tk : L2N.Takes X W
  nd : X.N.Nodup
  hr : Room k X.A
  po : PassesOwn (model X.prog X.w) X.A X.env X.xe

def PV (M : Fr) (W : WX) (X : Cx) (e : Expr) (f : Ev → Res (D × Ev)) : Prop := ∃ t, PE X e t ∧ Tr M W (Rp M.F) t f
def RB : Hp → Bool → Bool → Prop := fun _ b c => b = c
def PB (M : Fr) (W : WX) (X : Cx) (e : Expr) (f : Ev → Res (Bool × Ev)) : Prop := ∃ t, PT X e t ∧ Tr M W RB t f
def PBW (M : Fr) (W : WX) (X : Cx) (e : Expr) (f : Ev → Res (Bool × Ev)) : Prop := ∃ t, PW X e t ∧ Tr M W RB t f
def PVs (M : Fr) (W : WX) (X : Cx) (es : List Expr) (f : Ev → Res (List D × Ev)) : Prop := ∃ t, PA X es t ∧ Tr M W (RpL M.F) t f

/-! ### names and constants -/
@[reducible, simp] def eC (d : D) : Ev → Res (D × Ev) := fun ε => .ok (d, ε)
@[reducible, simp] def getPu (ε : Ev) (i : Nat) : Res D := match ε[i]? with
  | some (.pu d) => .ok d
  | _ => .stuck
@[reducible, simp] def eV (i : Nat) : Ev → Res (D × Ev) := fun ε => (getPu ε i).bind fun d => .ok (d, ε)

theorem Tr.const {M : Fr} {W : WX} {d : D} {v : V} (h : ∀ G, Rp M.F G d v) : Tr M W (Rp M.F) (tC v) (eC d) := fun σ G H ε s Q hp =>
  hp v G H s (Step.refl ..) (h G)
theorem tr_var {M : Fr} {W : WX} (i : Nat) : Tr M W (Rp M.F) (tVar i) (eV i) := by
  intro σ G H ε s Q hp
  cases e : ε[i]? with
  | none => simp [eV, getPu, e, Post] at hp
  | some x =>
    cases x with
    | em => simp [eV, getPu, e, Post] at hp
    | ow ds => simp [eV, getPu, e, Post] at hp
    | pu d =>
      obtain ⟨v, e2, r⟩ := s.pu e
      simp only [eV, getPu, e, Res.bind_ok, Post] at hp
      exact ⟨v, e2, hp v G H s (Step.refl ..) r⟩

section
variable {M : Fr} {W : WX} {X : Cx} {k : Nat}
theorem pv_int {i : Int} {j pos} : PV M W X (.Constant (.int i) j pos) (eC (.int i)) := ⟨_, pe_int, Tr.const fun _ => by simp only [Rp]⟩
theorem pv_bl {b : Bool} {j pos} : PV M W X (.Constant (.bool b) j pos) (eC (.bl b)) := ⟨_, pe_bl, Tr.const fun _ => by simp only [Rp]⟩
theorem pv_non {j pos} : PV M W X (.Constant .none j pos) (eC .non) := ⟨_, pe_non, Tr.const fun _ => by simp only [Rp]⟩
theorem pv_str {x : Str} {j pos} : PV M W X (.Constant (.str x) j pos) (eC (.str x)) := ⟨_, pe_str, Tr.const fun _ => by simp only [Rp]⟩
theorem pv_var (i : Nat) {x : Str} {pos : Pos} (hN : X.N[i]? = some x := by rfl) (hv : Vis X.env.scope x := by first | exact Or.inl rfl | exact Or.inr (Or.inl rfl) | exact Or.inr (Or.inr rfl)) (hd : (x == ("__debug__" : Str)) = false := by decide)
    (hcd : (x == ("__classdict__" : Str)) = false := by decide) : PV M W X (.Name x pos) (eV i) := ⟨_, pe_var hN hv hd hcd, tr_var i⟩
theorem pv_glob {x : Str} {v : V} {u : Value} {d : D} {pos : Pos} (hm : X.mg x = some u) (r : RelV v u) (hd : ∀ G, Rp M.F G d v) (hg : Gl X x := by rfl) (hdb : (x == ("__debug__" : Str)) = false := by decide) : PV M W X (.Name x pos) (eC d) :=
  ⟨_, pe_glob hg hm r hdb, Tr.const hd⟩

/-! ### arithmetic -/
@[simp] def dSub : D → D → Res D
  | .int i, .int j => .ok (.int (i - j))
  | _, _ => .stuck
def mulOk (i j : Int) : Bool := decide (i.natAbs.log2 + j.natAbs.log2 < 134000000) || decide (i.natAbs.log2 < 60) || decide (j.natAbs.log2 < 60)
def divOk (j : Int) : Bool := decide (j ≠ 0 ∧ j.natAbs.log2 < 9000)
def dDiv : D → D → Res D
  | .int i, .int j => if divOk j then .ok (.int (i.fdiv j)) else .stuck
  | _, _ => .stuck
def dMod : D → D → Res D
  | .int i, .int j => if j = 0 then .stuck else .ok (.int (i.fmod j))
  | _, _ => .stuck
def powOk (i j : Int) : Bool := decide (0 ≤ j ∧ j ≤ 1000000 ∧ i.natAbs < 2 ^ 64)
def dPow : D → D → Res D
  | .int i, .int j => if powOk i j then .ok (.int (i ^ j.toNat)) else .stuck
  | _, _ => .stuck
def dShl : D → D → Res D
  | .int i, .int j => if powOk i j then .ok (.int (i * 2 ^ j.toNat)) else .stuck
  | _, _ => .stuck
@[simp] def dNeg : D → Res D
  | .int i => .ok (.int (-i))
  | _ => .stuck
@[simp] def dCmp (p : Int → Int → Bool) : D → D → Res D
  | .int i, .int j => .ok (.bl (p i j))
  | _, _ => .stuck

theorem rp_int {F : Fx} {G : Hp} {i : Int} {v : V} : Rp F G (.int i) v ↔ v = .int i := by simp only [Rp]
theorem rp_bl {F : Fx} {G : Hp} {i : Bool} {v : V} : Rp F G (.bl i) v ↔ v = .bl i := by simp only [Rp]
theorem rp_str {F : Fx} {G : Hp} {i : Str} {v : V} : Rp F G (.str i) v ↔ v = .str i := by simp only [Rp]
theorem rp_non {F : Fx} {G : Hp} {v : V} : Rp F G .non v ↔ v = .non := by simp only [Rp]
theorem rp_lst {F : Fx} {G : Hp} {ds : List D} {v : V} : Rp F G (.lst ds) v ↔ ∃ a vs, v = .ref a ∧ G a = some (.lst vs) ∧ RpL F G ds vs := by simp only [Rp]
theorem rp_tup {F : Fx} {G : Hp} {ds : List D} {v : V} : Rp F G (.tup ds) v ↔ ∃ a vs, v = .ref a ∧ SqT F.K G a vs ∧ RpL F G ds vs := by simp only [Rp]

/-- two ints: the shape of most operators -/
theorem opT_int {r : R2} {op : D → D → Res D} (h : ∀ i j d, op (.int i) (.int j) = .ok d → ∃ v, (∀ F G, Rp F G d v) ∧ ∀ H (Q : VK), Q v H → r (.int i) (.int j) H Q) (hn : ∀ i j c, op (.int i) (.int j) ≠ .err c)
    (ho : ∀ x y, (∀ i j, ¬ (x = .int i ∧ y = .int j)) → op x y = .stuck) : OpT M W r op := by
  intro x y v w σ G H ε s rx ry Q hp
  by_cases hi : ∃ i j, x = D.int i ∧ y = D.int j
  · obtain ⟨i, j, rfl, rfl⟩ := hi
    rw [rp_int] at rx ry
    subst rx ry
    cases e : op (.int i) (.int j) with
    | stuck => rw [e] at hp; exact hp.elim
    | err c => exact absurd e (hn i j c)
    | ok d =>
      rw [e] at hp
      obtain ⟨v, hv, hr⟩ := h i j d e
      exact hr H Q (hp v G H s (Step.refl ..) (hv M.F G))
  · rw [ho x y fun i j z => hi ⟨i, j, z⟩] at hp
    exact hp.elim

theorem not_ints {op : D → D → Res D} (h1 : ∀ x y, (∀ i, x ≠ .int i) → op x y = .stuck) (h2 : ∀ x y, (∀ i, y ≠ .int i) → op x y = .stuck) (x y : D) (h : ∀ i j, ¬ (x = .int i ∧ y = .int j)) : op x y = .stuck := by
  cases x with
  | int i =>
    refine h2 _ y fun j e => h i j ⟨rfl, e⟩
  | _ => exact h1 _ y fun i e => by cases e

theorem opT_sub : OpT M W (rI0 fun i j => .int (i - j)) dSub := by
  refine opT_int (fun i j d e => ?_) (fun i j c e => by simp [dSub] at e) (not_ints (fun x y h => ?_) fun x y h => ?_)
  · simp only [dSub, Res.ok.injEq] at e
    subst e
    exact ⟨_, fun F G => rp_int.mpr rfl, fun H Q q => ⟨i, j, rfl, rfl, q⟩⟩
  · cases x <;> first | rfl | exact absurd rfl (h _)
  · cases y <;> first | (cases x <;> rfl) | exact absurd rfl (h _)
theorem opT_div : OpT M W (rI (fun i j => divOk j = true) fun i j => .int (i.fdiv j)) dDiv := by
  refine opT_int (fun i j d e => ?_) (fun i j c e => by simp only [dDiv] at e; split at e <;> cases e) (not_ints (fun x y h => ?_) fun x y h => ?_)
  · simp only [dDiv] at e
    split at e
    · rename_i hd
      simp only [Res.ok.injEq] at e
      subst e
      exact ⟨_, fun F G => rp_int.mpr rfl, fun H Q q => ⟨i, j, rfl, rfl, hd, q⟩⟩
    · cases e
  · cases x <;> first | rfl | exact absurd rfl (h _)
  · cases y <;> first | (cases x <;> rfl) | exact absurd rfl (h _)
theorem opT_mod : OpT M W (rI (fun _ j => j ≠ 0) fun i j => .int (i.fmod j)) dMod := by
  refine opT_int (fun i j d e => ?_) (fun i j c e => by simp only [dMod] at e; split at e <;> cases e) (not_ints (fun x y h => ?_) fun x y h => ?_)
  · simp only [dMod] at e
    split at e
    · cases e
    · rename_i hd
      simp only [Res.ok.injEq] at e
      subst e
      exact ⟨_, fun F G => rp_int.mpr rfl, fun H Q q => ⟨i, j, rfl, rfl, hd, q⟩⟩
  · cases x <;> first | rfl | exact absurd rfl (h _)
  · cases y <;> first | (cases x <;> rfl) | exact absurd rfl (h _)
theorem opT_pow : OpT M W (rI CPow fun i j => .int (i ^ j.toNat)) dPow := by
  refine opT_int (fun i j d e => ?_) (fun i j c e => by simp only [dPow] at e; split at e <;> cases e) (not_ints (fun x y h => ?_) fun x y h => ?_)
  · simp only [dPow] at e
    split at e
    · rename_i hd
      simp only [Res.ok.injEq] at e
      subst e
      exact ⟨_, fun F G => rp_int.mpr rfl, fun H Q q => ⟨i, j, rfl, rfl, (of_decide_eq_true hd : 0 ≤ j ∧ j ≤ 1000000 ∧ i.natAbs < 2 ^ 64), q⟩⟩
    · cases e
  · cases x <;> first | rfl | exact absurd rfl (h _)
  · cases y <;> first | (cases x <;> rfl) | exact absurd rfl (h _)
theorem opT_shl : OpT M W (rI CPow fun i j => .int (i * 2 ^ j.toNat)) dShl := by
  refine opT_int (fun i j d e => ?_) (fun i j c e => by simp only [dShl] at e; split at e <;> cases e) (not_ints (fun x y h => ?_) fun x y h => ?_)
  · simp only [dShl] at e
    split at e
    · rename_i hd
      simp only [Res.ok.injEq] at e
      subst e
      exact ⟨_, fun F G => rp_int.mpr rfl, fun H Q q => ⟨i, j, rfl, rfl, (of_decide_eq_true hd : 0 ≤ j ∧ j ≤ 1000000 ∧ i.natAbs < 2 ^ 64), q⟩⟩
    · cases e
  · cases x <;> first | rfl | exact absurd rfl (h _)
  · cases y <;> first | (cases x <;> rfl) | exact absurd rfl (h _)
theorem opT_cmp (p : Int → Int → Bool) : OpT M W (rI0 fun i j => .bl (p i j)) (dCmp p) := by
  refine opT_int (fun i j d e => ?_) (fun i j c e => by simp [dCmp] at e) (not_ints (fun x y h => ?_) fun x y h => ?_)
  · simp only [dCmp, Res.ok.injEq] at e
    subst e
    exact ⟨_, fun F G => rp_bl.mpr rfl, fun H Q q => ⟨i, j, rfl, rfl, q⟩⟩
  · cases x <;> first | rfl | exact absurd rfl (h _)
  · cases y <;> first | (cases x <;> rfl) | exact absurd rfl (h _)
theorem unT_neg : UnT M W (rU fun i => .int (-i)) dNeg := by
  intro x v σ G H ε s rx Q hp
  cases x with
  | int i =>
    rw [rp_int] at rx
    subst rx
    exact ⟨i, rfl, hp _ G H s (Step.refl ..) (rp_int.mpr rfl)⟩
  | _ => exact hp.elim
theorem op_fdivWN : OpR X (binaryOp .FloorDiv) (rI (fun i j => divOk j = true) fun i j => .int (i.fdiv j)) := opI fun _ j _ _ _ _ _ hc q => by
  have hd := of_decide_eq_true hc
  exact floordiv_int hd.1 q (.inl (PyProof.noPylong_of_log2 hd.2))

variable {a b : Expr} {fa fb : Ev → Res (D × Ev)} {pos : Pos}
theorem pv_sub (ha : PV M W X a fa) (hb : PV M W X b fb) : PV M W X (.BinOp a .Sub b pos) (eOp dSub fa fb) := by
  obtain ⟨ta, ea, qa⟩ := ha
  obtain ⟨tb, eb, qb⟩ := hb
  exact ⟨_, pe_op op_sub ea eb, tr_op opT_sub qa qb⟩
theorem pv_div (ha : PV M W X a fa) (hb : PV M W X b fb) : PV M W X (.BinOp a .FloorDiv b pos) (eOp dDiv fa fb) := by
  obtain ⟨ta, ea, qa⟩ := ha
  obtain ⟨tb, eb, qb⟩ := hb
  exact ⟨_, pe_op op_fdivWN ea eb, tr_op opT_div qa qb⟩
theorem pv_mod (ha : PV M W X a fa) (hb : PV M W X b fb) : PV M W X (.BinOp a .Mod b pos) (eOp dMod fa fb) := by
  obtain ⟨ta, ea, qa⟩ := ha
  obtain ⟨tb, eb, qb⟩ := hb
  exact ⟨_, pe_op op_modN ea eb, tr_op opT_mod qa qb⟩
theorem pv_pow (ha : PV M W X a fa) (hb : PV M W X b fb) : PV M W X (.BinOp a .Pow b pos) (eOp dPow fa fb) := by
  obtain ⟨ta, ea, qa⟩ := ha
  obtain ⟨tb, eb, qb⟩ := hb
  exact ⟨_, pe_op op_pow ea eb, tr_op opT_pow qa qb⟩
theorem pv_shl (ha : PV M W X a fa) (hb : PV M W X b fb) : PV M W X (.BinOp a .LShift b pos) (eOp dShl fa fb) := by
  obtain ⟨ta, ea, qa⟩ := ha
  obtain ⟨tb, eb, qb⟩ := hb
  exact ⟨_, pe_op op_shl ea eb, tr_op opT_shl qa qb⟩
theorem pv_neg (ha : PV M W X a fa) : PV M W X (.UnaryOp .USub a pos) (eUn dNeg fa) := by
  obtain ⟨ta, ea, qa⟩ := ha
  exact ⟨_, pe_un un_neg ea, tr_un unT_neg qa⟩

/-! ### comparisons -/
@[simp] abbrev dLt := dCmp fun i j => decide (i < j)
@[simp] abbrev dLe := dCmp fun i j => decide (i ≤ j)
@[simp] abbrev dGt := dCmp fun i j => decide (j < i)
@[simp] abbrev dGe := dCmp fun i j => decide (j ≤ i)
/-- a comparison's operator, its rule, its function -/
structure CmpR (M : Fr) (W : WX) (X : Cx) (op : CmpOp) (g : D → D → Res D) : Prop where
  ex : ∃ r, OpR X (compareOp op) r ∧ OpT M W r g
theorem cm_lt : CmpR M W X .Lt dLt := ⟨_, op_lt, opT_cmp _⟩
theorem cm_le : CmpR M W X .LtE dLe := ⟨_, op_le, opT_cmp _⟩
theorem cm_gt : CmpR M W X .Gt dGt := ⟨_, op_gt, opT_cmp _⟩
theorem cm_ge : CmpR M W X .GtE dGe := ⟨_, op_ge, opT_cmp _⟩
theorem pv_cmp {op : CmpOp} {g : D → D → Res D} (h : CmpR M W X op g) (ha : PV M W X a fa) (hb : PV M W X b fb) (hm : behindInMarks op b = false := by first | exact nomark _ | rfl) : PV M W X (.Compare a [op] [b] pos) (eOp g fa fb) := by
  obtain ⟨r, h1, h2⟩ := h.ex
  obtain ⟨ta, ea, qa⟩ := ha
  obtain ⟨tb, eb, qb⟩ := hb
  exact ⟨_, pe_cmpR h1 ea eb hm, tr_op h2 qa qb⟩

/-! ### tests -/
@[reducible, simp] def asB (d : D) : Res Bool := match d with
  | .bl b => .ok b
  | _ => .stuck
@[reducible, simp] def bOf (f : Ev → Res (D × Ev)) : Ev → Res (Bool × Ev) := fun ε => (f ε).bind fun p => (asB p.1).bind fun b => .ok (b, p.2)
theorem tr_test {t : TE} {f : Ev → Res (D × Ev)} (h : Tr M W (Rp M.F) t f) : Tr M W RB (tTest t) (bOf f) := by
  refine Tr.bind (f2 := fun d ε => (asB d).bind fun b => .ok (b, ε)) (t2 := fun v σ H1 Q => ∃ k, v = .bl k ∧ Q k H1) h ?_
  intro d v σ G H ε s rd Q hp
  cases d with
  | bl b =>
    rw [rp_bl] at rd
    exact ⟨b, rd, hp b G H s (Step.refl ..) rfl⟩
  | _ => exact hp.elim
theorem tB_eq (t : TE) : tB t = tTest t := rfl
/-- an expression that gives a bool, as a test -/
theorem pb_val (ha : PV M W X a fa) (he : ∀ whole, isTrue a X.env whole = (do let v ← whole; standAt a.pos; holding [v] (truthy v)) := by intro _; rfl) : PB M W X a (bOf fa) := by
  obtain ⟨ta, ea, qa⟩ := ha
  exact ⟨_, pt_val ea he, by rw [tB_eq]; exact tr_test qa⟩
theorem pb_cmp {op : CmpOp} {g : D → D → Res D} (h : CmpR M W X op g) (ha : PV M W X a fa) (hb : PV M W X b fb) (hm : behindInMarks op b = false := by first | exact nomark _ | rfl) : PB M W X (.Compare a [op] [b] pos) (bOf (eOp g fa fb)) := by
  obtain ⟨r, h1, h2⟩ := h.ex
  obtain ⟨ta, ea, qa⟩ := ha
  obtain ⟨tb, eb, qb⟩ := hb
  exact ⟨_, pt_cmpR h1 ea eb hm, tr_test (tr_op h2 qa qb)⟩
@[reducible, simp] def bNot (f : Ev → Res (Bool × Ev)) : Ev → Res (Bool × Ev) := fun ε => (f ε).bind fun p => .ok (!p.1, p.2)
@[reducible, simp] def bAnd (f g : Ev → Res (Bool × Ev)) : Ev → Res (Bool × Ev) := fun ε => (f ε).bind fun p => if p.1 then g p.2 else .ok (false, p.2)
@[reducible, simp] def bOr (f g : Ev → Res (Bool × Ev)) : Ev → Res (Bool × Ev) := fun ε => (f ε).bind fun p => if p.1 then .ok (true, p.2) else g p.2
variable {ba bb : Ev → Res (Bool × Ev)} {rest : List Expr}
theorem pb_not (ha : PB M W X a ba) : PB M W X (.UnaryOp .Not a pos) (bNot ba) := by
  obtain ⟨ta, ea, qa⟩ := ha
  refine ⟨_, pt_not ea, Tr.bind (f2 := fun b ε => .ok (!b, ε)) (t2 := fun c σ H1 Q => Q (!c) H1) qa ?_⟩
  intro b c σ G H ε s r Q hp
  exact hp _ G H s (Step.refl ..) (by simp only [RB] at r ⊢; rw [r])
theorem pb_and1 (ha : PB M W X a ba) : PBW M W X (.BoolOp .And [a] pos) ba := by
  obtain ⟨ta, ea, qa⟩ := ha
  exact ⟨_, pw_and1 ea, qa⟩
theorem pb_or1 (ha : PB M W X a ba) : PBW M W X (.BoolOp .Or [a] pos) ba := by
  obtain ⟨ta, ea, qa⟩ := ha
  exact ⟨_, pw_or1 ea, qa⟩
theorem pb_and (ha : PB M W X a ba) (hb : PBW M W X (.BoolOp .And (b :: rest) pos) bb) : PBW M W X (.BoolOp .And (a :: b :: rest) pos) (bAnd ba bb) := by
  obtain ⟨ta, ea, qa⟩ := ha
  obtain ⟨tb, eb, qb⟩ := hb
  refine ⟨_, pw_and ea eb, Tr.bind (f2 := fun c ε => if c then bb ε else .ok (false, ε)) (t2 := fun c σ H1 Q => if c = true then tb σ H1 Q else Q false H1) qa ?_⟩
  intro c c' σ G H ε s r Q hp
  simp only [RB] at r
  subst r
  cases c with
  | true => exact qb σ G H ε s Q hp
  | false => exact hp false G H s (Step.refl ..) rfl
theorem pb_or (ha : PB M W X a ba) (hb : PBW M W X (.BoolOp .Or (b :: rest) pos) bb) : PBW M W X (.BoolOp .Or (a :: b :: rest) pos) (bOr ba bb) := by
  obtain ⟨ta, ea, qa⟩ := ha
  obtain ⟨tb, eb, qb⟩ := hb
  refine ⟨_, pw_or ea eb, Tr.bind (f2 := fun c ε => if c then .ok (true, ε) else bb ε) (t2 := fun c σ H1 Q => if c = true then Q true H1 else tb σ H1 Q) qa ?_⟩
  intro c c' σ G H ε s r Q hp
  simp only [RB] at r
  subst r
  cases c with
  | true => exact hp true G H s (Step.refl ..) rfl
  | false => exact qb σ G H ε s Q hp
theorem PBW.pb (h : PBW M W X a ba) : PB M W X a ba := by
  obtain ⟨t, e, q⟩ := h
  exact ⟨t, e.pt, q⟩
/-! .. as values -/
@[reducible, simp] def eNot (f : Ev → Res (D × Ev)) : Ev → Res (D × Ev) := fun ε => (f ε).bind fun p => (asB p.1).bind fun b => .ok (.bl (!b), p.2)
@[reducible, simp] def eAnd (f g : Ev → Res (D × Ev)) : Ev → Res (D × Ev) := fun ε => (f ε).bind fun p => (asB p.1).bind fun b => if b then g p.2 else .ok (.bl false, p.2)
@[reducible, simp] def eOr (f g : Ev → Res (D × Ev)) : Ev → Res (D × Ev) := fun ε => (f ε).bind fun p => (asB p.1).bind fun b => if b then .ok (.bl true, p.2) else g p.2
theorem pv_one {op} (ha : PV M W X a fa) : PV M W X (.BoolOp op [a] pos) fa := by
  obtain ⟨ta, ea, qa⟩ := ha
  exact ⟨_, pe_one ea, qa⟩
theorem pv_and (ha : PV M W X a fa) (hb : PV M W X (.BoolOp .And (b :: rest) pos) fb) : PV M W X (.BoolOp .And (a :: b :: rest) pos) (eAnd fa fb) := by
  obtain ⟨ta, ea, qa⟩ := ha
  obtain ⟨tb, eb, qb⟩ := hb
  refine ⟨_, pe_and ea eb, Tr.bind (f2 := fun x ε => (asB x).bind fun b => if b then fb ε else .ok (.bl false, ε)) (t2 := fun x σ H1 Q => ∃ c, x = .bl c ∧ if c = true then tb σ H1 Q else Q (.bl false) H1) qa ?_⟩
  intro x v σ G H ε s r Q hp
  cases x with
  | bl c =>
    rw [rp_bl] at r
    refine ⟨c, r, ?_⟩
    cases c with
    | true => exact qb σ G H ε s Q hp
    | false => exact hp _ G H s (Step.refl ..) (rp_bl.mpr rfl)
  | _ => exact hp.elim
theorem pv_or (ha : PV M W X a fa) (hb : PV M W X (.BoolOp .Or (b :: rest) pos) fb) : PV M W X (.BoolOp .Or (a :: b :: rest) pos) (eOr fa fb) := by
  obtain ⟨ta, ea, qa⟩ := ha
  obtain ⟨tb, eb, qb⟩ := hb
  refine ⟨_, pe_or ea eb, Tr.bind (f2 := fun x ε => (asB x).bind fun b => if b then .ok (.bl true, ε) else fb ε) (t2 := fun x σ H1 Q => ∃ c, x = .bl c ∧ if c = true then Q (.bl true) H1 else tb σ H1 Q) qa ?_⟩
  intro x v σ G H ε s r Q hp
  cases x with
  | bl c =>
    rw [rp_bl] at r
    refine ⟨c, r, ?_⟩
    cases c with
    | false => exact qb σ G H ε s Q hp
    | true => exact hp _ G H s (Step.refl ..) (rp_bl.mpr rfl)
  | _ => exact hp.elim
theorem pv_not (ha : PV M W X a fa) : PV M W X (.UnaryOp .Not a pos) (eNot fa) := by
  obtain ⟨ta, ea, qa⟩ := ha
  refine ⟨_, pe_not ea, Tr.bind (f2 := fun x ε => (asB x).bind fun b => .ok (D.bl (!b), ε)) (t2 := fun x σ H1 (Q : VK) => ∃ c, x = V.bl c ∧ Q (V.bl (!c)) H1) qa ?_⟩
  intro x v σ G H ε s r Q hp
  cases x with
  | bl c =>
    rw [rp_bl] at r
    exact ⟨c, r, hp _ G H s (Step.refl ..) (rp_bl.mpr rfl)⟩
  | _ => exact hp.elim
@[reducible, simp] def eIf (c : Ev → Res (Bool × Ev)) (f g : Ev → Res (D × Ev)) : Ev → Res (D × Ev) := fun ε => (c ε).bind fun p => if p.1 then f p.2 else g p.2
theorem pv_ifExp {t : Expr} (hc : PB M W X t ba) (ha : PV M W X a fa) (hb : PV M W X b fb) : PV M W X (.IfExp t a b pos) (eIf ba fa fb) := by
  obtain ⟨tc, ec, qc⟩ := hc
  obtain ⟨ta, ea, qa⟩ := ha
  obtain ⟨tb, eb, qb⟩ := hb
  refine ⟨_, pe_ifExp ec ea eb, Tr.bind (f2 := fun c ε => if c then fa ε else fb ε) (t2 := fun c σ H1 Q => if c = true then ta σ H1 Q else tb σ H1 Q) qc ?_⟩
  intro c c' σ G H ε s r Q hp
  simp only [RB] at r
  subst r
  cases c with
  | true => exact qa σ G H ε s Q hp
  | false => exact qb σ G H ε s Q hp
end
end PL
/-! PL, part c: displays, new lists, subscripts, +, *, ==, calls of built-ins. -/
namespace PL
open PySem PySem.Spec PyProof.Rows L2

/-! ### argument lists -/
@[reducible, simp] def aNil : Ev → Res (List D × Ev) := fun ε => .ok ([], ε)
@[reducible, simp] def aCons (f : Ev → Res (D × Ev)) (g : Ev → Res (List D × Ev)) : Ev → Res (List D × Ev) := fun ε => (f ε).bind fun p => (g p.2).bind fun q => .ok (p.1 :: q.1, q.2)
/-- the list of arguments has their number -/
def LenOk (n : Nat) (f : Ev → Res (List D × Ev)) : Prop := ∀ ε p, f ε = .ok p → p.1.length = n
def PA' (M : Fr) (W : WX) (X : Cx) (es : List Expr) (f : Ev → Res (List D × Ev)) : Prop := (∃ t, PA X es t ∧ Tr M W (RpL M.F) t f) ∧ LenOk es.length f

section
variable {M : Fr} {W : WX} {X : Cx} {k : Nat} {a b e : Expr} {es rest : List Expr} {fa fb f : Ev → Res (D × Ev)} {g : Ev → Res (List D × Ev)} {pos : Pos}
theorem pa_nil' : PA' M W X [] aNil := by
  refine ⟨⟨_, L2.pa_nil, fun σ G H ε s Q hp => hp [] G H s (Step.refl ..) RpL.nil⟩, fun ε p e => ?_⟩
  cases e; rfl
theorem pa_cons' (ha : PV M W X a fa) (hg : PA' M W X es g) (hs : starEach (a :: es) X.env = (false, eval a X.env) :: starEach es X.env := by rfl) : PA' M W X (a :: es) (aCons fa g) := by
  obtain ⟨ta, ea, qa⟩ := ha
  obtain ⟨⟨tg, eg, qg⟩, hl⟩ := hg
  refine ⟨⟨_, L2.pa_cons ea eg hs, Tr.bind (f2 := fun x ε => (g ε).bind fun q => .ok (x :: q.1, q.2)) (t2 := fun v σ H1 (Q : List V → Hp → Prop) => tg σ H1 fun xs H2 => Q (v :: xs) H2) qa ?_⟩, fun ε p e => ?_⟩
  · intro x v σ G H ε s rx Q hp
    refine qg σ G H ε s _ ?_
    cases e : g ε with
    | stuck => rw [e] at hp; exact hp
    | err c => rw [e] at hp; exact hp
    | ok q =>
      rw [e] at hp
      intro xs G1 H1 s1 st1 rs
      exact hp _ G1 H1 s1 st1 (RpL.cons (rx.mono st1.gg) rs)
  · change ((fa ε).bind fun p => (g p.2).bind fun q => Res.ok (p.1 :: q.1, q.2)) = .ok p at e
    cases e1 : fa ε with
    | stuck => rw [e1] at e; cases e
    | err c => rw [e1] at e; cases e
    | ok q =>
      rw [e1] at e
      try simp only [Res.bind_ok] at e
      cases e2 : g q.2 with
      | stuck => rw [e2] at e; cases e
      | err c => rw [e2] at e; cases e
      | ok q2 =>
        rw [e2] at e
        simp only [Res.bind_ok, Res.ok.injEq] at e
        subst e
        simp [hl _ _ e2]

/-! ### new lists -/
def PostN (M : Fr) (W : WX) (σ : St) (G H : Hp) (ε : Ev) (r : Res (List D × Ev)) (Q : VK) : Prop :=
  match r with
  | .ok p => ∀ a vs G' H', SR M G' H' σ p.2 → Step G H (Own σ ε) G' H' (Own σ p.2) → G' a = none → H' a = some (.lst vs) → RpL M.F G' p.1 vs → H a = none → ¬ Own σ p.2 a → Q (.ref a) H'
  | .err c => ErrOk M W G H (Own σ ε) c
  | .stuck => False
def TrN (M : Fr) (W : WX) (t : TE) (f : Ev → Res (List D × Ev)) : Prop := ∀ (σ : St) (G H : Hp) (ε : Ev), SR M G H σ ε → ∀ Q, PostN M W σ G H ε (f ε) Q → t σ H Q
def PN (M : Fr) (W : WX) (X : Cx) (e : Expr) (f : Ev → Res (List D × Ev)) : Prop := ∃ t, PE X e t ∧ TrN M W t f
theorem PostN.shift {σ : St} {G H G1 H1 : Hp} {ε ε1 : Ev} {r : Res (List D × Ev)} {Q : VK}
    (s1 : SR M G1 H1 σ ε1) (st : Step G H (Own σ ε) G1 H1 (Own σ ε1)) (h : PostN M W σ G H ε r Q) : PostN M W σ G1 H1 ε1 r Q := by
  cases r with
  | ok p => exact fun a vs G' H' s t n hp r nh no => h a vs G' H' s (st.trans s1.sub t) n hp r (st.hs a nh) no
  | err c => exact ErrOk.shift s1.sub st h
  | stuck => exact h

/-- a list is known from now on -/
theorem SR.freeze {G H : Hp} {σ : St} {ε : Ev} (s : SR M G H σ ε) {p : Addr} {vs : List V} (gp : G p = none) (hp : H p = some (.lst vs)) (no : ¬ Own σ ε p) : SR M (upd G p (.lst vs)) H σ ε where
  sub := fun q o h => by
    unfold upd at h
    split at h
    · rename_i e; subst e; rw [hp]; exact h
    · exact s.sub q o h
  ntb := fun q ps h => by
    unfold upd at h
    split at h
    · cases h
    · exact s.ntb q ps h
  tabs := s.tabs
  len := s.len
  slots := fun i x o e1 e2 => by
    have h := s.slots i x o e1 e2
    have mono : ∀ q o, G q = some o → upd G p (.lst vs) q = some o := fun q o h => by
      rw [upd_ne (ne_of_none h gp)]; exact h
    cases x with
    | em => trivial
    | pu d =>
      obtain ⟨v, e, r⟩ := h
      exact ⟨v, e, r.mono mono⟩
    | ow ds =>
      obtain ⟨q, ws, e, n, hq, r⟩ := h
      subst e
      refine ⟨q, ws, rfl, ?_, hq, r.mono mono⟩
      rw [upd_ne (fun e => no ⟨i, ds, e1, by rw [← e]; exact e2⟩)]
      exact n
  inj := s.inj
  cup := s.cup
@[reducible, simp] def eL (f : Ev → Res (List D × Ev)) : Ev → Res (D × Ev) := fun ε => (f ε).bind fun p => .ok (.lst p.1, p.2)
theorem TrN.tr {t : TE} (h : TrN M W t g) : Tr M W (Rp M.F) t (eL g) := by
  intro σ G H ε s Q hp
  refine h σ G H ε s Q ?_
  simp only [eL] at hp
  cases e : g ε with
  | stuck => rw [e] at hp; exact hp
  | err c => rw [e] at hp; exact hp
  | ok p =>
    rw [e] at hp
    intro a vs G' H' s' st n ha r nh no
    have mono : ∀ q o, G' q = some o → upd G' a (.lst vs) q = some o := fun q o h => by
      rw [upd_ne (ne_of_none h n)]; exact h
    refine hp (.ref a) (upd G' a (.lst vs)) H' (s'.freeze n ha no) ⟨fun q o h => mono q o (st.gg q o h), st.hh, st.hs, fun q o h => ?_, st.oo⟩ (rp_lst.mpr ⟨a, vs, rfl, upd_same, r.mono mono⟩)
    unfold upd at h
    split at h
    · rename_i e; subst e; exact .inr (.inl nh)
    · exact st.gn q o h
theorem PN.pv (h : PN M W X e g) : PV M W X e (eL g) := by
  obtain ⟨t, et, q⟩ := h
  exact ⟨t, et, q.tr⟩

/-! ### displays -/
theorem pn_lst (h : PA' M W X es g) (hn : es.length ≤ 1000 := by decide) : PN M W X (.List es pos) g := by
  obtain ⟨⟨t, et, q⟩, hl⟩ := h
  refine ⟨_, pe_lst et, fun σ G H ε s Q hp => ?_⟩
  refine q σ G H ε s _ ?_
  cases e : g ε with
  | stuck => rw [e] at hp; exact hp
  | err c => rw [e] at hp; exact hp
  | ok p =>
    rw [e] at hp
    intro vs G' H' s' st r
    refine ⟨by rw [← r.length, hl _ _ e]; exact Nat.le_of_lt (small1000 hn), fun a na => ?_⟩
    obtain ⟨s2, st2, ga, no⟩ := s'.newH (o := .lst vs) na
    exact hp a vs G' _ s2 (st.trans s'.sub st2) ga upd_same r (st.hs a na) no
@[reducible, simp] def eTup (g : Ev → Res (List D × Ev)) : Ev → Res (D × Ev) := fun ε => (g ε).bind fun p => .ok (.tup p.1, p.2)
theorem pv_tup {x1} (h : PA' M W X es g) (hn : es.length ≤ 1000 := by decide) : PV M W X (.Tuple es x1 pos) (eTup g) := by
  obtain ⟨⟨t, et, q⟩, hl⟩ := h
  refine ⟨_, pe_tup et, fun σ G H ε s Q hp => ?_⟩
  refine q σ G H ε s _ ?_
  simp only [eTup] at hp
  cases e : g ε with
  | stuck => rw [e] at hp; exact hp
  | err c => rw [e] at hp; exact hp
  | ok p =>
    rw [e] at hp
    intro vs G' H' s' st r
    refine ⟨by rw [← r.length, hl _ _ e]; exact Nat.le_of_lt (small1000 hn), fun a na => ?_⟩
    obtain ⟨s2, st2⟩ := s'.new (o := .tup vs) na (fun ps z => by cases z)
    refine hp (.ref a) _ _ s2 (st.trans s'.sub st2) (rp_tup.mpr ⟨a, vs, rfl, .inl (.inl upd_same), r.mono st2.gg⟩)
end

/-! ### what is there now: a value, its list read from the heap -/
def RpH (F : Fx) (G H : Hp) : D → V → Prop
  | .lst ds, v => ∃ a vs, v = .ref a ∧ H a = some (.lst vs) ∧ RpL F G ds vs
  | d, v => Rp F G d v
theorem rpH_int {F : Fx} {G H : Hp} {i : Int} {v : V} : RpH F G H (.int i) v ↔ v = .int i := by simp only [RpH, Rp]
theorem rpH_bl {F : Fx} {G H : Hp} {i : Bool} {v : V} : RpH F G H (.bl i) v ↔ v = .bl i := by simp only [RpH, Rp]
theorem rpH_str {F : Fx} {G H : Hp} {i : Str} {v : V} : RpH F G H (.str i) v ↔ v = .str i := by simp only [RpH, Rp]
theorem rpH_non {F : Fx} {G H : Hp} {v : V} : RpH F G H .non v ↔ v = .non := by simp only [RpH, Rp]
theorem rpH_tup {F : Fx} {G H : Hp} {ds : List D} {v : V} : RpH F G H (.tup ds) v ↔ ∃ a vs, v = .ref a ∧ SqT F.K G a vs ∧ RpL F G ds vs := by simp only [RpH, Rp]
theorem Rp.rpH {F : Fx} {G H : Hp} (sub : ∀ q o, G q = some o → H q = some o) {d : D} {v : V} (r : Rp F G d v) : RpH F G H d v := by
  cases d with
  | lst ds =>
    rw [rp_lst] at r
    obtain ⟨a, vs, e, g, l⟩ := r
    exact ⟨a, vs, e, sub _ _ g, l⟩
  | _ => exact r
def OpH (M : Fr) (W : WX) (r : R2) (op : D → D → Res D) : Prop :=
  ∀ (x y : D) (v w : V) (σ : St) (G H : Hp) (ε : Ev), SR M G H σ ε → RpH M.F G H x v → RpH M.F G H y w → ∀ Q : VK,
    Post M W σ G H ε (Rp M.F) ((op x y).bind fun d => .ok (d, ε)) Q → r v w H Q
theorem OpH.opT {M : Fr} {W : WX} {r : R2} {op : D → D → Res D} (h : OpH M W r op) : OpT M W r op := fun x y v w σ G H ε s rx ry Q hp => h x y v w σ G H ε s (rx.rpH s.sub) (ry.rpH s.sub) Q hp
/-- a new list out of two values -/
def OpN (M : Fr) (W : WX) (r : R2) (op : D → D → Res (List D)) : Prop :=
  ∀ (x y : D) (v w : V) (σ : St) (G H : Hp) (ε : Ev), SR M G H σ ε → RpH M.F G H x v → RpH M.F G H y w → ∀ Q : VK,
    PostN M W σ G H ε ((op x y).bind fun d => .ok (d, ε)) Q → r v w H Q
@[reducible] def eOpN (op : D → D → Res (List D)) (fa fb : Ev → Res (D × Ev)) : Ev → Res (List D × Ev) := fun ε =>
  (fa ε).bind fun p => (fb p.2).bind fun q => (op p.1 q.1).bind fun d => .ok (d, q.2)
theorem trN_op {M : Fr} {W : WX} {r : R2} {op : D → D → Res (List D)} {ta tb : TE} {fa fb : Ev → Res (D × Ev)} (ho : OpN M W r op) (ha : Tr M W (Rp M.F) ta fa) (hb : Tr M W (Rp M.F) tb fb) : TrN M W (tOp r ta tb) (eOpN op fa fb) := by
  intro σ G H ε s Q hp
  refine ha σ G H ε s _ ?_
  simp only [eOpN] at hp
  cases e : fa ε with
  | stuck => rw [e] at hp; exact hp
  | err c => rw [e] at hp; exact hp
  | ok p =>
    rw [e] at hp
    intro v G1 H1 s1 st1 rx
    have hp1 : PostN M W σ G1 H1 p.2 ((fb p.2).bind fun q => (op p.1 q.1).bind fun d => .ok (d, q.2)) Q := PostN.shift s1 st1 hp
    refine hb σ G1 H1 p.2 s1 _ ?_
    cases e2 : fb p.2 with
    | stuck => rw [e2] at hp1; exact hp1
    | err c => rw [e2] at hp1; exact hp1
    | ok q =>
      rw [e2] at hp1
      intro w G2 H2 s2 st2 ry
      exact ho p.1 q.1 v w σ G2 H2 q.2 s2 ((rx.mono st2.gg).rpH s2.sub) (ry.rpH s2.sub) Q (hp1.shift s2 st2)

/-! ### subscripts -/
theorem RpL.atI {F : Fx} {G : Hp} {ds : List D} {vs : List V} (r : RpL F G ds vs) {i : Int} {d : D} (e : atI ds i = some d) : ∃ v, atI vs i = some v ∧ Rp F G d v := by
  unfold L2.atI at e ⊢
  rw [← r.length]
  cases q : ixN ds.length i with
  | none => rw [q] at e; cases e
  | some j =>
    rw [q] at e
    exact r.get e
@[simp] def dIx : D → D → Res D
  | .lst ds, .int i => match atI ds i with
    | some d => .ok d
    | none => .stuck
  | .tup ds, .int i => match atI ds i with
    | some d => .ok d
    | none => .stuck
  | .str z, .int i => if z.length ≤ 1000000 then (match atI z.cps.toList i with
    | some c => .ok (.str ⟨#[c]⟩)
    | none => .stuck) else .stuck
  | _, _ => .stuck
theorem line_big {n : Nat} (h : n ≤ 1000000) : n ≤ sizeLine := by rw [sizeLine_eq]; omega
theorem opH_ix {M : Fr} {W : WX} : OpH M W (rIx M.F.K) dIx := by
  intro x y v w σ G H ε s rx ry Q hp
  cases y with
  | int i =>
    have ry' := rpH_int.mp ry
    subst ry'
    cases x with
    | lst ds =>
      obtain ⟨a, vs, rfl, ha, l⟩ := rx
      simp only [dIx] at hp
      cases e : atI ds i with
      | none => rw [e] at hp; exact hp.elim
      | some d =>
        rw [e] at hp
        obtain ⟨u, e2, r⟩ := l.atI e
        exact .inl ⟨a, vs, i, u, rfl, rfl, SqL.of ha, e2, hp u G H s (Step.refl ..) r⟩
    | tup ds =>
      obtain ⟨a, vs, rfl, ha, l⟩ := rpH_tup.mp rx
      simp only [dIx] at hp
      cases e : atI ds i with
      | none => rw [e] at hp; exact hp.elim
      | some d =>
        rw [e] at hp
        obtain ⟨u, e2, r⟩ := l.atI e
        exact .inr (.inl ⟨a, vs, i, u, rfl, rfl, sqT_mono s.sub ha, e2, hp u G H s (Step.refl ..) r⟩)
    | str z =>
      have rx' := rpH_str.mp rx
      subst rx'
      simp only [dIx] at hp
      split at hp
      · rename_i hz
        cases e : atI z.cps.toList i with
        | none => rw [e] at hp; exact hp.elim
        | some c =>
          rw [e] at hp
          exact .inr (.inr ⟨z, i, c, rfl, rfl, line_big hz, e, hp _ G H s (Step.refl ..) (rp_str.mpr rfl)⟩)
      · exact hp.elim
    | _ => exact hp.elim
  | _ => cases x <;> exact hp.elim

section
variable {M : Fr} {W : WX} {X : Cx} {k : Nat} {a b e : Expr} {es rest : List Expr} {fa fb f : Ev → Res (D × Ev)} {g : Ev → Res (List D × Ev)} {pos : Pos}
theorem pv_ix (c : CO M W k X) (ha : PV M W X a fa) (hb : PV M W X b fb) (hs : PlainIx b := by intro _ _; rfl) : PV M W X (.Subscript a b pos) (eOp dIx fa fb) := by
  obtain ⟨ta, ea, qa⟩ := ha
  obtain ⟨tb, eb, qb⟩ := hb
  refine ⟨_, pe_ix (r := rIx M.F.K) (by rw [← c.hK]; exact ix_seq) ea eb hs, tr_op opH_ix.opT qa qb⟩

/-! ### a name whose list may be owned, read where it stands -/
@[reducible, simp] def getAny (ε : Ev) (i : Nat) : Res D := match ε[i]? with
  | some (.pu d) => .ok d
  | some (.ow ds) => .ok (.lst ds)
  | _ => .stuck
theorem SR.any {G H : Hp} {σ : St} {ε : Ev} (s : SR M G H σ ε) {i : Nat} {d : D} (e : getAny ε i = .ok d) : ∃ v, σ[i]? = some (some v) ∧ RpH M.F G H d v := by
  unfold getAny at e
  split at e
  · rename_i d' e'
    cases e
    obtain ⟨v, e2, r⟩ := s.pu e'
    exact ⟨v, e2, r.rpH s.sub⟩
  · rename_i ds e'
    cases e
    obtain ⟨p, vs, e2, _, hp, r⟩ := s.ow e'
    exact ⟨.ref p, e2, p, vs, rfl, hp, r⟩
  · cases e
@[reducible, simp] def eOpV (op : D → D → Res D) (i : Nat) (fb : Ev → Res (D × Ev)) : Ev → Res (D × Ev) := fun ε =>
  (getAny ε i).bind fun _ => (fb ε).bind fun q => (getAny q.2 i).bind fun x => (op x q.1).bind fun d => .ok (d, q.2)
theorem tr_opV {r : R2} {op : D → D → Res D} {i : Nat} {tb : TE} (ho : OpH M W r op) (hb : Tr M W (Rp M.F) tb fb) : Tr M W (Rp M.F) (tOp r (tVar i) tb) (eOpV op i fb) := by
  intro σ G H ε s Q hp
  simp only [eOpV] at hp
  cases e0 : getAny ε i with
  | stuck => rw [e0] at hp; exact hp.elim
  | err c => simp only [getAny] at e0; split at e0 <;> cases e0
  | ok x0 =>
    rw [e0] at hp
    obtain ⟨v, ev, _⟩ := s.any e0
    refine ⟨v, ev, hb σ G H ε s _ ?_⟩
    try simp only [Res.bind_ok] at hp
    cases e : fb ε with
    | stuck => rw [e] at hp; exact hp
    | err c => rw [e] at hp; exact hp
    | ok q =>
      rw [e] at hp
      intro w G1 H1 s1 st1 ry
      try simp only [Res.bind_ok] at hp
      cases e1 : getAny q.2 i with
      | stuck => rw [e1] at hp; exact hp.elim
      | err c => simp only [getAny] at e1; split at e1 <;> cases e1
      | ok x =>
        rw [e1] at hp
        obtain ⟨v', ev', rx⟩ := s1.any e1
        rw [ev] at ev'
        cases ev'
        exact ho x q.1 v w σ G1 H1 q.2 s1 rx (ry.rpH s1.sub) Q (hp.shift s1 st1)
theorem pv_ixV (c : CO M W k X) (i : Nat) {x : Str} {px : Pos} (hb : PV M W X b fb) (hs : PlainIx b := by intro _ _; rfl) (hN : X.N[i]? = some x := by rfl)
    (hv : Vis X.env.scope x := by first | exact Or.inl rfl | exact Or.inr (Or.inl rfl) | exact Or.inr (Or.inr rfl)) (hd : (x == ("__debug__" : Str)) = false := by decide) (hcd : (x == ("__classdict__" : Str)) = false := by decide) :
    PV M W X (.Subscript (.Name x px) b pos) (eOpV dIx i fb) := by
  obtain ⟨tb, eb, qb⟩ := hb
  refine ⟨_, pe_ix (r := rIx M.F.K) (by rw [← c.hK]; exact ix_seq) (pe_var hN hv hd hcd) eb hs, tr_opV opH_ix qb⟩
end

/-! ### == -/
mutual
def D.pyd : D → PyData
  | .non => .none
  | .bl b => .bool b
  | .int i => .int i
  | .str x => .str x
  | .tup ds => .tuple (D.pydL ds)
  | .lst ds => .list (D.pydL ds)
  | .fn _ => .none
  | .scr _ => .none
def D.pydL : List D → List PyData
  | [] => []
  | d :: ds => d.pyd :: D.pydL ds
end
mutual
/-- data without functions, texts of real signs, at most n deep -/
def D.okq : Nat → D → Bool
  | _, .non => true
  | _, .bl _ => true
  | _, .int _ => true
  | _, .str x => PyData.strOk x
  | 0, .tup _ => false
  | n + 1, .tup ds => D.okqL n ds
  | 0, .lst _ => false
  | n + 1, .lst ds => D.okqL n ds
  | _, .fn _ => false
  | _, .scr _ => false
def D.okqL : Nat → List D → Bool
  | _, [] => true
  | n, d :: ds => D.okq n d && D.okqL n ds
end
mutual
theorem okq_canLay : ∀ (d : D) (n : Nat), D.okq n d = true → d.pyd.canLay0 = true ∧ d.pyd.depth ≤ n
  | .non, n, _ => ⟨rfl, Nat.zero_le _⟩
  | .bl _, n, _ => ⟨rfl, Nat.zero_le _⟩
  | .int _, n, _ => ⟨rfl, Nat.zero_le _⟩
  | .str x, n, h => ⟨by simpa [D.pyd, PyData.canLay0, D.okq] using h, by simp [D.pyd, PyData.depth]⟩
  | .tup ds, 0, h => by simp [D.okq] at h
  | .tup ds, n + 1, h => by
    have q := okqL_canLay ds n (by simpa [D.okq] using h)
    exact ⟨by simpa [D.pyd, PyData.canLay0] using q.1, by simpa [D.pyd, PyData.depth] using q.2⟩
  | .lst ds, 0, h => by simp [D.okq] at h
  | .lst ds, n + 1, h => by
    have q := okqL_canLay ds n (by simpa [D.okq] using h)
    exact ⟨by simpa [D.pyd, PyData.canLay0] using q.1, by simpa [D.pyd, PyData.depth] using q.2⟩
  | .fn _, _, h => by simp [D.okq] at h
  | .scr _, _, h => by simp [D.okq] at h
theorem okqL_canLay : ∀ (ds : List D) (n : Nat), D.okqL n ds = true → PyData.canLayAll0 (D.pydL ds) = true ∧ PyData.depthAll (D.pydL ds) ≤ n
  | [], n, _ => ⟨rfl, Nat.zero_le _⟩
  | d :: ds, n, h => by
    have h' : D.okq n d = true ∧ D.okqL n ds = true := by simpa [D.okqL] using h
    have q1 := okq_canLay d n h'.1
    have q2 := okqL_canLay ds n h'.2
    refine ⟨by simp [D.pydL, PyData.canLayAll0, q1.1, q2.1], ?_⟩
    simp only [D.pydL, PyData.depthAll]
    exact Nat.max_le.mpr ⟨q1.2, q2.2⟩
end
theorem okq_shaped {d : D} {n : Nat} (h : D.okq n d = true) (hn : n ≤ 64) : SeqAt.shaped d.pyd = true := by
  obtain ⟨a, b⟩ := okq_canLay d n h
  unfold SeqAt.shaped
  rw [a, decide_eq_true (Nat.le_trans b hn)]; rfl
mutual
theorem rp_dp {F : Fx} {G H : Hp} (sub : ∀ q o, G q = some o → H q = some o) : ∀ (d : D) (n : Nat) (v : V), D.okq n d = true → Rp F G d v → Dp F.K H v d.pyd
  | .non, _, v, _, r => by rw [rp_non] at r; subst r; exact .non
  | .bl b, _, v, _, r => by rw [rp_bl] at r; subst r; exact .bl b
  | .int i, _, v, _, r => by rw [rp_int] at r; subst r; exact .int i
  | .str x, _, v, _, r => by rw [rp_str] at r; subst r; exact .str x
  | .tup ds, 0, v, h, _ => by simp [D.okq] at h
  | .tup ds, n + 1, v, h, r => by
    obtain ⟨a, vs, rfl, s, l⟩ := rp_tup.mp r
    simp only [D.pyd]
    exact .tup (sqT_mono sub s) (rpL_dp sub ds n vs (by simpa [D.okq] using h) l)
  | .lst ds, 0, v, h, _ => by simp [D.okq] at h
  | .lst ds, n + 1, v, h, r => by
    obtain ⟨a, vs, rfl, s, l⟩ := rp_lst.mp r
    simp only [D.pyd]
    exact .lst (SqL.of (sub _ _ s)) (rpL_dp sub ds n vs (by simpa [D.okq] using h) l)
  | .fn _, _, v, h, _ => by simp [D.okq] at h
  | .scr _, _, v, h, _ => by simp [D.okq] at h
theorem rpL_dp {F : Fx} {G H : Hp} (sub : ∀ q o, G q = some o → H q = some o) : ∀ (ds : List D) (n : Nat) (vs : List V), D.okqL n ds = true → RpL F G ds vs → DpAll F.K H vs (D.pydL ds)
  | [], _, vs, _, r => by rw [r.of_nil]; exact .nil
  | d :: ds, n, vs, h, r => by
    obtain ⟨v, ws, rfl, a, l⟩ := r.of_cons
    have h' : D.okq n d = true ∧ D.okqL n ds = true := by simpa [D.okqL] using h
    simp only [D.pydL]
    exact .cons (rp_dp sub d n v h'.1 a) (rpL_dp sub ds n ws h'.2 l)
end
theorem rpH_dp {F : Fx} {G H : Hp} (sub : ∀ q o, G q = some o → H q = some o) {d : D} {n : Nat} {v : V} (h : D.okq n d = true) (r : RpH F G H d v) : Dp F.K H v d.pyd := by
  cases d with
  | lst ds =>
    obtain ⟨a, vs, rfl, s, l⟩ := r
    cases n with
    | zero => simp [D.okq] at h
    | succ n =>
      simp only [D.pyd]
      exact .lst (SqL.of s) (rpL_dp sub ds n vs (by simpa [D.okq] using h) l)
  | _ => exact rp_dp sub _ n v h r
def dEqv (x y : D) : Bool := PyData.eqv x.pyd y.pyd
def dEq (x y : D) : Res D := if (D.okq 20 x && D.okq 20 y) = true then .ok (.bl (dEqv x y)) else .stuck
def dNe (x y : D) : Res D := if (D.okq 20 x && D.okq 20 y) = true then .ok (.bl (!dEqv x y)) else .stuck
theorem opH_eq {M : Fr} {W : WX} : OpH M W (rEqD M.F.K) dEq := by
  intro x y v w σ G H ε s rx ry Q hp
  simp only [dEq] at hp
  split at hp
  · rename_i h
    have h' := Bool.and_eq_true_iff.mp h
    exact ⟨_, _, rpH_dp s.sub h'.1 rx, rpH_dp s.sub h'.2 ry, okq_shaped h'.1 (by decide), okq_shaped h'.2 (by decide), hp _ G H s (Step.refl ..) (rp_bl.mpr rfl)⟩
  · exact hp.elim
theorem opH_ne {M : Fr} {W : WX} : OpH M W (rNeD M.F.K) dNe := by
  intro x y v w σ G H ε s rx ry Q hp
  simp only [dNe] at hp
  split at hp
  · rename_i h
    have h' := Bool.and_eq_true_iff.mp h
    exact ⟨_, _, rpH_dp s.sub h'.1 rx, rpH_dp s.sub h'.2 ry, okq_shaped h'.1 (by decide), okq_shaped h'.2 (by decide), hp _ G H s (Step.refl ..) (rp_bl.mpr rfl)⟩
  · exact hp.elim
def dIsN : D → D → Res D
  | .non, .non => .ok (.bl true)
  | _, .non => .ok (.bl false)
  | _, _ => .stuck
def dNotN : D → D → Res D
  | .non, .non => .ok (.bl false)
  | _, .non => .ok (.bl true)
  | _, _ => .stuck
theorem rpH_non_iff {F : Fx} {G H : Hp} {d : D} {v : V} (r : RpH F G H d v) : v = .non ↔ d = .non := by
  cases d with
  | non => exact ⟨fun _ => rfl, fun _ => rpH_non.mp r⟩
  | bl b => have := rpH_bl.mp r; subst this; exact ⟨(fun e => by cases e), (fun e => by cases e)⟩
  | int b => have := rpH_int.mp r; subst this; exact ⟨(fun e => by cases e), (fun e => by cases e)⟩
  | str b => have := rpH_str.mp r; subst this; exact ⟨(fun e => by cases e), (fun e => by cases e)⟩
  | tup ds => obtain ⟨a, vs, rfl, _⟩ := rpH_tup.mp r; exact ⟨(fun e => by cases e), (fun e => by cases e)⟩
  | lst ds => obtain ⟨a, vs, rfl, _⟩ := r; exact ⟨(fun e => by cases e), (fun e => by cases e)⟩
  | scr ns => obtain ⟨a, rfl, _⟩ : ∃ a, v = .ref a ∧ SqL F.K G a (ns.map V.int) := (by simpa only [RpH, Rp] using r); exact ⟨(fun e => by cases e), (fun e => by cases e)⟩
  | fn k => have : v = .ref (F.fa k) := (by simpa only [RpH, Rp] using r); subst this; exact ⟨(fun e => by cases e), (fun e => by cases e)⟩
theorem opH_isN {M : Fr} {W : WX} : OpH M W (fun x y H Q => y = .non ∧ Q (.bl (decide (x = .non))) H) dIsN := by
  intro x y v w σ G H ε s rx ry Q hp
  cases y with
  | non =>
    refine ⟨rpH_non.mp ry, ?_⟩
    have e := rpH_non_iff rx
    by_cases h : x = .non
    · subst h
      rw [decide_eq_true (e.mpr rfl)]
      exact hp _ G H s (Step.refl ..) (rp_bl.mpr rfl)
    · rw [decide_eq_false fun z => h (e.mp z)]
      cases x <;> first | exact absurd rfl h | exact hp _ G H s (Step.refl ..) (rp_bl.mpr rfl)
  | _ => cases x <;> exact hp.elim
theorem opH_notN {M : Fr} {W : WX} : OpH M W (fun x y H Q => y = .non ∧ Q (.bl (!decide (x = .non))) H) dNotN := by
  intro x y v w σ G H ε s rx ry Q hp
  cases y with
  | non =>
    refine ⟨rpH_non.mp ry, ?_⟩
    have e := rpH_non_iff rx
    by_cases h : x = .non
    · subst h
      rw [decide_eq_true (e.mpr rfl)]
      exact hp _ G H s (Step.refl ..) (rp_bl.mpr rfl)
    · rw [decide_eq_false fun z => h (e.mp z)]
      cases x <;> first | exact absurd rfl h | exact hp _ G H s (Step.refl ..) (rp_bl.mpr rfl)
  | _ => cases x <;> exact hp.elim
section
variable {M : Fr} {W : WX} {X : Cx} {k : Nat} {a b e : Expr} {es rest : List Expr} {fa fb f : Ev → Res (D × Ev)} {g : Ev → Res (List D × Ev)} {pos : Pos}
theorem cm_eq (c : CO M W k X) : CmpR M W X .Eq dEq := ⟨_, by rw [← c.hK]; exact op_eqD c.hr.units, opH_eq.opT⟩
theorem cm_ne (c : CO M W k X) : CmpR M W X .NotEq dNe := ⟨_, by rw [← c.hK]; exact op_neD c.hr.units, opH_ne.opT⟩
theorem cm_isN : CmpR M W X .Is dIsN := ⟨_, op_isN, opH_isN.opT⟩
theorem cm_notN : CmpR M W X .IsNot dNotN := ⟨_, op_notN, opH_notN.opT⟩
/-- x == e, x != e, x a name whose list may be owned -/
theorem pb_eqV (c : CO M W k X) (i : Nat) {x : Str} {px : Pos} (hb : PV M W X b fb) (hN : X.N[i]? = some x := by rfl)
    (hv : Vis X.env.scope x := by first | exact Or.inl rfl | exact Or.inr (Or.inl rfl) | exact Or.inr (Or.inr rfl)) (hd : (x == ("__debug__" : Str)) = false := by decide) (hcd : (x == ("__classdict__" : Str)) = false := by decide) :
    PB M W X (.Compare (.Name x px) [.Eq] [b] pos) (bOf (eOpV dEq i fb)) := by
  obtain ⟨tb, eb, qb⟩ := hb
  refine ⟨_, pt_cmpR (r := rEqD M.F.K) (by rw [← c.hK]; exact op_eqD c.hr.units) (pe_var hN hv hd hcd) eb (nomark _), tr_test (tr_opV opH_eq qb)⟩
theorem pb_neV (c : CO M W k X) (i : Nat) {x : Str} {px : Pos} (hb : PV M W X b fb) (hN : X.N[i]? = some x := by rfl)
    (hv : Vis X.env.scope x := by first | exact Or.inl rfl | exact Or.inr (Or.inl rfl) | exact Or.inr (Or.inr rfl)) (hd : (x == ("__debug__" : Str)) = false := by decide) (hcd : (x == ("__classdict__" : Str)) = false := by decide) :
    PB M W X (.Compare (.Name x px) [.NotEq] [b] pos) (bOf (eOpV dNe i fb)) := by
  obtain ⟨tb, eb, qb⟩ := hb
  refine ⟨_, pt_cmpR (r := rNeD M.F.K) (by rw [← c.hK]; exact op_neD c.hr.units) (pe_var hN hv hd hcd) eb (nomark _), tr_test (tr_opV opH_ne qb)⟩
end
end PL
/-! PL, part d: + and *, slices, calls of built-ins. -/
namespace PL
open PySem PySem.Spec PyProof.Rows L2

theorem post_ok {α β : Type} {M : Fr} {W : WX} {σ : St} {G H : Hp} {ε : Ev} {R : Hp → β → α → Prop} {b : β} {Q : α → Hp → Prop} (hp : Post M W σ G H ε R (.ok (b, ε)) Q) (s : SR M G H σ ε) {a : α} (r : R G b a) : Q a H :=
  hp a G H s (Step.refl ..) r
/-- the answer is a new object -/
theorem post_new {M : Fr} {W : WX} {σ : St} {G H : Hp} {ε : Ev} {d : D} {Q : VK} (hp : Post M W σ G H ε (Rp M.F) (.ok (d, ε)) Q) (s : SR M G H σ ε) {p : Addr} {o : HO} (hn : H p = none) (ho : ∀ ps, o ≠ .tbl ps)
    (r : Rp M.F (upd G p o) d (.ref p)) : Q (.ref p) (upd H p o) := by
  obtain ⟨s2, st2⟩ := s.new (o := o) hn ho
  exact hp _ _ _ s2 st2 r
theorem postN_new {M : Fr} {W : WX} {σ : St} {G H : Hp} {ε : Ev} {ds : List D} {vs : List V} {Q : VK} (hp : PostN M W σ G H ε (.ok (ds, ε)) Q) (s : SR M G H σ ε) {p : Addr} (hn : H p = none) (r : RpL M.F G ds vs) : Q (.ref p) (upd H p (.lst vs)) := by
  obtain ⟨s2, st2, ga, no⟩ := s.newH (o := .lst vs) hn
  exact hp p vs G _ s2 st2 ga upd_same r hn no
theorem up_mono {G : Hp} {p : Addr} {o : HO} (hn : G p = none) : ∀ q u, G q = some u → upd G p o q = some u := fun q u h => by rw [upd_ne (ne_of_none h hn)]; exact h
theorem SR.gnone {M : Fr} {G H : Hp} {σ : St} {ε : Ev} (s : SR M G H σ ε) {p : Addr} (hn : H p = none) : G p = none := by
  cases q : G p with
  | none => rfl
  | some u => rw [s.sub p u q] at hn; cases hn

/-! ### + -/
def dCat : D → D → Res (List D)
  | .lst a, .lst b => if a.length + b.length ≤ 1000000 then .ok (a ++ b) else .stuck
  | _, _ => .stuck
@[simp] def dAdd : D → D → Res D
  | .int i, .int j => .ok (.int (i + j))
  | .str x, .str y => if x.length + y.length ≤ 1000000 then .ok (.str (x ++ y)) else .stuck
  | .tup a, .tup b => if a.length + b.length ≤ 1000000 then .ok (.tup (a ++ b)) else .stuck
  | .lst a, .lst b => (dCat (.lst a) (.lst b)).bind fun c => .ok (.lst c)
  | _, _ => .stuck
def rAddAll (K : PySem.W.Frag) : R2 := fun x y H Q => (∃ i j, x = .int i ∧ y = .int j ∧ Q (.int (i + j)) H) ∨ (∃ i j, x = .str i ∧ y = .str j ∧ i.length + j.length ≤ sizeLine ∧ Q (.str (i ++ j)) H) ∨ rCatA K x y H Q ∨ rCat x y H Q
theorem op_addAll {X : Cx} : OpR X (binaryOp .Add) (rAddAll X.K) := (op_add).or ((op_add_str).or ((op_catA).or op_cat))
theorem opN_cat {M : Fr} {W : WX} : OpN M W (rAddAll M.F.K) dCat := by
  intro x y v w σ G H ε s rx ry Q hp
  cases x with
  | lst a =>
    cases y with
    | lst b =>
      obtain ⟨p, vs, rfl, hv, lv⟩ := rx
      obtain ⟨q, ws, rfl, hw, lw⟩ := ry
      simp only [dCat] at hp
      split at hp
      · rename_i hl
        refine .inr (.inr (.inr ⟨p, q, vs, ws, rfl, rfl, hv, hw, by rw [← lv.length, ← lw.length]; exact line_big hl, fun r hr => postN_new hp s hr (lv.append lw)⟩))
      · exact hp.elim
    | _ => exact hp.elim
  | _ => exact hp.elim
theorem opH_add {M : Fr} {W : WX} : OpH M W (rAddAll M.F.K) dAdd := by
  intro x y v w σ G H ε s rx ry Q hp
  cases x with
  | int i =>
    cases y with
    | int j =>
      rw [rpH_int] at rx ry
      subst rx ry
      exact .inl ⟨i, j, rfl, rfl, post_ok hp s (rp_int.mpr rfl)⟩
    | _ => exact hp.elim
  | str i =>
    cases y with
    | str j =>
      rw [rpH_str] at rx ry
      subst rx ry
      simp only [dAdd] at hp
      split at hp
      · rename_i hl
        exact .inr (.inl ⟨i, j, rfl, rfl, line_big hl, post_ok hp s (rp_str.mpr rfl)⟩)
      · exact hp.elim
    | _ => exact hp.elim
  | tup a =>
    cases y with
    | tup b =>
      obtain ⟨p, vs, rfl, hv, lv⟩ := rpH_tup.mp rx
      obtain ⟨q, ws, rfl, hw, lw⟩ := rpH_tup.mp ry
      simp only [dAdd] at hp
      split at hp
      · rename_i hl
        have nilOf : ∀ {ds : List D} {us : List V}, RpL M.F G ds us → us = [] → ds = [] := fun {ds us} l e => by
          have := l.length
          rw [e] at this
          exact List.eq_nil_of_length_eq_zero this
        refine .inr (.inr (.inl ⟨p, q, vs, ws, rfl, rfl, sqT_mono s.sub hv, sqT_mono s.sub hw, ?_, fun e => ?_, fun _ e => ?_, fun _ _ r hr => ?_⟩))
        · rw [← lv.length, ← lw.length]; exact line_big hl
        · have ea := nilOf lv e
          subst ea
          exact post_ok hp s (rp_tup.mpr ⟨q, ws, rfl, hw, lw⟩)
        · have eb := nilOf lw e
          subst eb
          rw [List.append_nil] at hp
          exact post_ok hp s (rp_tup.mpr ⟨p, vs, rfl, hv, lv⟩)
        · refine post_new hp s hr (fun ps z => by cases z) (rp_tup.mpr ⟨r, _, rfl, .inl (.inl upd_same), ?_⟩)
          exact (lv.append lw).mono (up_mono (s.gnone hr))
      · exact hp.elim
    | _ => exact hp.elim
  | lst a =>
    cases y with
    | lst b =>
      refine opN_cat (W := W) _ _ v w σ G H ε s rx ry Q ?_
      simp only [dAdd] at hp
      cases e : dCat (.lst a) (.lst b) with
      | stuck => rw [e] at hp; exact hp
      | err c => rw [e] at hp; exact hp
      | ok c =>
        rw [e] at hp
        intro p vs G' H' s' st n hv r nh no
        have mono := up_mono (o := .lst vs) n
        refine hp (.ref p) (upd G' p (.lst vs)) H' (s'.freeze n hv no) ⟨fun q o h => mono q o (st.gg q o h), st.hh, st.hs, fun q o h => ?_, st.oo⟩ (rp_lst.mpr ⟨p, vs, rfl, upd_same, r.mono mono⟩)
        unfold upd at h
        split at h
        · rename_i e; subst e; exact .inr (.inl nh)
        · exact st.gn q o h
    | _ => exact hp.elim
  | _ => cases y <;> exact hp.elim

/-! ### * -/
section
variable {prog : Program} {w : World} {A : Around} {E : Value → Shared → Prop} {s : Shared}
theorem tup_mul_same (l : Addr) (items : Array Value) (n : Nat) (dd : Option Addr) (sl : Array (Option Value)) (x : Int) (u : Tok) (c0 : (decide (x < -(2 ^ 63)) || decide (x ≥ 2 ^ 63)) = false) (c1 : (items.isEmpty || x == 1) = true) :
    Meets (Builtin.«tuple.__mul__» ⟨[.ref l, .int x u], []⟩) (fun _ R s => s.heap.get? l = some { cls := .type "tuple", dict := dd, data := .seq items n, slots := sl } ∧ R (.ok (.ret (Value.ref l))) s) :=
  .of_wp fun prog w A R s h => by
    obtain ⟨hp, g, d, tk, os⟩ := s; obtain ⟨hl, h⟩ := h; have f1 := AutoSeq1.idx_int; wp_walk using wpAny_loadPart' hl
    repeat (first
      | (refine wpAny_ite_false (decide_eq_false (by rw [c0]; exact Bool.false_ne_true)) ?_; wp_walk using wpAny_loadPart' hl)
      | (refine wpAny_ite_true (decide_eq_true c1) ?_; wp_walk using wpAny_loadPart' hl))
    exact ⟨_, rfl, h⟩
theorem tup_mul_none (l : Addr) (items : Array Value) (n : Nat) (dd : Option Addr) (sl : Array (Option Value)) (x : Int) (u : Tok) (c0 : (decide (x < -(2 ^ 63)) || decide (x ≥ 2 ^ 63)) = false) (c1 : (items.isEmpty || x == 1) = false) (c2 : (decide (x ≤ 0) || items.isEmpty) = true) :
    Meets (Builtin.«tuple.__mul__» ⟨[.ref l, .int x u], []⟩) (fun _ R s => s.heap.get? l = some { cls := .type "tuple", dict := dd, data := .seq items n, slots := sl } ∧
      R (.ok (.ret (Value.ref s.heap.objs.size))) { s with heap := s.heap.push { cls := Value.type "tuple", data := Data.seq #[] }, toks := s.toks }) :=
  .of_wp fun prog w A R s h => by
    obtain ⟨hp, g, d, tk, os⟩ := s; obtain ⟨hl, h⟩ := h; have f1 := AutoSeq1.idx_int; wp_walk using wpAny_loadPart' hl
    repeat (first
      | (refine wpAny_ite_false (decide_eq_false (by rw [c0]; exact Bool.false_ne_true)) ?_; wp_walk using wpAny_loadPart' hl)
      | (refine wpAny_ite_false (decide_eq_false (by rw [c1]; exact Bool.false_ne_true)) ?_; wp_walk using wpAny_loadPart' hl)
      | (refine wpAny_ite_true (decide_eq_true c2) ?_; wp_walk using wpAny_loadPart' hl))
    exact ⟨_, rfl, h⟩
end
/-- t * k: t itself, or an empty new tuple -/
def rRep01 (K : PySem.W.Frag) : R2 := fun x y H Q => ∃ l k xs, x = .ref l ∧ y = .int k ∧ SqT K H l xs ∧ -1000 ≤ k ∧ k ≤ 1000 ∧ ((xs = [] ∨ k = 1) ∧ Q (.ref l) H ∨ (xs ≠ [] ∧ k ≤ 0) ∧ ∀ p, H p = none → Q (.ref p) (upd H p (.tup [])))
theorem op_rep01 {X : Cx} : OpR X (binaryOp .Mult) (rRep01 X.K) := by
  intro pins s σ H x y v u Q I rx ry h
  obtain ⟨l, k, xs, rfl, rfl, hT, h1, h2, h3⟩ := h
  cases rx
  obtain ⟨t, rfl⟩ := ry
  obtain ⟨its, r, ⟨⟨cls, dd, data, sl⟩, ho, hc, n, hd⟩, hs⟩ := I.tuple hT
  simp only at hc hd
  subst hc hd
  have c0 : (decide (k < -(2 ^ 63)) || decide (k ≥ 2 ^ 63)) = false := by rw [decide_eq_false (by omega), decide_eq_false (by omega)] <;> rfl
  have he : its = [] ↔ xs = [] := r.nil_iff
  rcases h3 with ⟨h3, q⟩ | ⟨⟨h3, h4⟩, q⟩
  · have c1 : (its.toArray.isEmpty || k == 1) = true := by
      rcases h3 with z | z
      · rw [he.mpr z]; rfl
      · rw [z]; simp
    exact wpAny_binaryOp_repeat_ref (T := "tuple") (U := "int") (by decide) ⟨_, ho, rfl⟩ (fun s' => typeIs_int s' k t) noFill_tuple_mul F.fills_int_mul F.slot_int_rmul repeat_tuple F.slot_int_index.lookup (call_meets F.slot_int_rmul (typeIs_int s k t) F.entry_int_rmul (F.args_int_rmul_2 _ _) (int_rmul_tuple k t l its.toArray n dd sl)
      ⟨ho, rfl, ⟨_, ho, rfl⟩, call_meets F.slot_tuple_mul ⟨_, ho, rfl⟩ F.entry_tuple_mul (F.args_tuple_mul_2 _ _) (tup_mul_same l its.toArray n dd sl k t c0 c1) ⟨ho, ⟨.ref l, H, I, rfl, q⟩⟩⟩)
  · have hn : its.toArray.isEmpty = false := by
      cases its with
      | nil => exact absurd (he.mp rfl) h3
      | cons a b => rfl
    have c1 : (its.toArray.isEmpty || k == 1) = false := by rw [hn, Bool.false_or]; exact beq_eq_false_iff_ne.mpr (by omega)
    have c2 : (decide (k ≤ 0) || its.toArray.isEmpty) = true := by rw [decide_eq_true h4]; rfl
    refine wpAny_binaryOp_repeat_ref (T := "tuple") (U := "int") (by decide) ⟨_, ho, rfl⟩ (fun s' => typeIs_int s' k t) noFill_tuple_mul F.fills_int_mul F.slot_int_rmul repeat_tuple F.slot_int_index.lookup (call_meets F.slot_int_rmul (typeIs_int s k t) F.entry_int_rmul (F.args_int_rmul_2 _ _) (int_rmul_tuple k t l its.toArray n dd sl)
      ⟨ho, rfl, ⟨_, ho, rfl⟩, call_meets F.slot_tuple_mul ⟨_, ho, rfl⟩ F.entry_tuple_mul (F.args_tuple_mul_2 _ _) (tup_mul_none l its.toArray n dd sl k t c0 c1 c2) ⟨ho, ?_⟩⟩)
    refine ⟨.ref s.heap.objs.size, _, I.laid (t' := s.toks) (o := .tup []) (fun b ob q => Heap.get?_push_of_some _ q) (Nat.le_refl _) ⟨Nat.zero_le _, [], .nil, IsTup.new _ _⟩, rfl, q _ (I.hok.fresh (Nat.le_refl _))⟩
def dRep : D → D → Res (List D)
  | .lst a, .int k => if k ≤ 1000 ∧ -1000 ≤ k ∧ a.length ≤ 1000 then .ok ((List.replicate k.toNat a).flatten) else .stuck
  | _, _ => .stuck
def dMul : D → D → Res D
  | .int i, .int j => if mulOk i j then .ok (.int (i * j)) else .stuck
  | .tup a, .int k => if k ≤ 1000 ∧ -1000 ≤ k ∧ a.length ≤ 1000 then .ok (.tup ((List.replicate k.toNat a).flatten)) else .stuck
  | .lst a, .int k => (dRep (.lst a) (.int k)).bind fun c => .ok (.lst c)
  | _, _ => .stuck
def rMulAll (K : PySem.W.Frag) : R2 := fun x y H Q => rI (fun i j => mulOk i j = true) (fun i j => .int (i * j)) x y H Q ∨ rRepT K x y H Q ∨ rRep x y H Q ∨ rRep01 K x y H Q
theorem mulOk_ok {i j : Int} (h : mulOk i j = true) : IntMulOk i j := by
  have b : ∀ x : Int, Builtin.Int.intBits x ≤ x.natAbs.log2 + 1 := fun x => by
    unfold Builtin.Int.intBits
    split <;> omega
  have h1 := b i
  have h2 := b j
  simp only [mulOk, Bool.or_eq_true, decide_eq_true_eq] at h
  rcases h with (h | h) | h
  · have el : bitsLine = 134217728 := by decide
    unfold IntMulOk
    intro z
    rw [Bool.and_eq_true] at z
    have z2 := z.2
    unfold Builtin.Int.intTooBig at z2
    have z3 := of_decide_eq_true z2
    rw [el] at z3
    omega
  · exact IntMulOk.of_left (by omega)
  · exact IntMulOk.of_right (by omega)
theorem op_mulX {X : Cx} : OpR X (binaryOp .Mult) (rI (fun i j => mulOk i j = true) fun i j => .int (i * j)) := opI fun _ _ _ _ _ _ _ hc q => mul_int q (mulOk_ok hc)
theorem op_mulAll {X : Cx} : OpR X (binaryOp .Mult) (rMulAll X.K) := (op_mulX).or ((op_repT).or (op_rep.or op_rep01))
theorem opN_rep {M : Fr} {W : WX} : OpN M W (rMulAll M.F.K) dRep := by
  intro x y v w σ G H ε s rx ry Q hp
  cases x with
  | lst a =>
    cases y with
    | int k =>
      obtain ⟨p, vs, rfl, hv, lv⟩ := rx
      rw [rpH_int] at ry
      subst ry
      simp only [dRep] at hp
      split at hp
      · rename_i hl
        refine .inr (.inr (.inl ⟨p, k, vs, rfl, rfl, hv, by omega, by omega, ?_, fun r hr => postN_new hp s hr (lv.rep _)⟩))
        rw [← lv.length]
        refine line_big ?_
        have : a.length * k.toNat ≤ 1000 * 1000 := Nat.mul_le_mul hl.2.2 (by omega)
        omega
      · exact hp.elim
    | _ => exact hp.elim
  | _ => exact hp.elim
theorem opH_mul {M : Fr} {W : WX} : OpH M W (rMulAll M.F.K) dMul := by
  intro x y v w σ G H ε s rx ry Q hp
  cases x with
  | int i =>
    cases y with
    | int j =>
      rw [rpH_int] at rx ry
      subst rx ry
      simp only [dMul] at hp
      split at hp
      · rename_i hl
        exact .inl ⟨i, j, rfl, rfl, hl, post_ok hp s (rp_int.mpr rfl)⟩
      · exact hp.elim
    | _ => exact hp.elim
  | tup a =>
    cases y with
    | int k =>
      obtain ⟨p, vs, rfl, hv, lv⟩ := rpH_tup.mp rx
      rw [rpH_int] at ry
      subst ry
      simp only [dMul] at hp
      split at hp
      · rename_i hl
        by_cases hv0 : vs = []
        · have ea : a = [] := by
            have := lv.length
            rw [hv0] at this
            exact List.eq_nil_of_length_eq_zero this
          subst ea
          refine .inr (.inr (.inr ⟨p, k, vs, rfl, rfl, sqT_mono s.sub hv, by omega, by omega, .inl ⟨.inl hv0, ?_⟩⟩))
          have e0 : (List.replicate k.toNat ([] : List D)).flatten = [] := by simp
          rw [e0] at hp
          exact post_ok hp s (rp_tup.mpr ⟨p, vs, rfl, hv, lv⟩)
        · by_cases hk1 : k = 1
          · subst hk1
            refine .inr (.inr (.inr ⟨p, 1, vs, rfl, rfl, sqT_mono s.sub hv, by omega, by omega, .inl ⟨.inr rfl, ?_⟩⟩))
            have e0 : (List.replicate (1 : Int).toNat a).flatten = a := by simp
            rw [e0] at hp
            exact post_ok hp s (rp_tup.mpr ⟨p, vs, rfl, hv, lv⟩)
          · by_cases hk0 : k ≤ 0
            · refine .inr (.inr (.inr ⟨p, k, vs, rfl, rfl, sqT_mono s.sub hv, by omega, by omega, .inr ⟨⟨hv0, hk0⟩, fun r hr => ?_⟩⟩))
              have e0 : (List.replicate k.toNat a).flatten = [] := by rw [show k.toNat = 0 by omega]; rfl
              rw [e0] at hp
              exact post_new hp s hr (fun ps z => by cases z) (rp_tup.mpr ⟨r, _, rfl, .inl (.inl upd_same), RpL.nil⟩)
            · refine .inr (.inl ⟨p, k, vs, rfl, rfl, sqT_mono s.sub hv, hv0, by omega, by omega, by rw [← lv.length]; omega, fun r hr => ?_⟩)
              refine post_new hp s hr (fun ps z => by cases z) (rp_tup.mpr ⟨r, _, rfl, .inl (.inl upd_same), ?_⟩)
              exact (lv.rep _).mono (up_mono (s.gnone hr))
      · exact hp.elim
    | _ => exact hp.elim
  | lst a =>
    cases y with
    | int k =>
      refine opN_rep (W := W) _ _ v w σ G H ε s rx ry Q ?_
      simp only [dMul] at hp
      cases e : dRep (.lst a) (.int k) with
      | stuck => rw [e] at hp; exact hp
      | err c => rw [e] at hp; exact hp
      | ok c =>
        rw [e] at hp
        intro p vs G' H' s' st n hv r nh no
        have mono := up_mono (o := .lst vs) n
        refine hp (.ref p) (upd G' p (.lst vs)) H' (s'.freeze n hv no) ⟨fun q o h => mono q o (st.gg q o h), st.hh, st.hs, fun q o h => ?_, st.oo⟩ (rp_lst.mpr ⟨p, vs, rfl, upd_same, r.mono mono⟩)
        unfold upd at h
        split at h
        · rename_i e; subst e; exact .inr (.inl nh)
        · exact st.gn q o h
    | _ => exact hp.elim
  | _ => cases y <;> exact hp.elim

section
variable {M : Fr} {W : WX} {X : Cx} {k : Nat} {a b e : Expr} {es rest : List Expr} {fa fb f : Ev → Res (D × Ev)} {g : Ev → Res (List D × Ev)} {pos : Pos}
theorem pv_add (c : CO M W k X) (ha : PV M W X a fa) (hb : PV M W X b fb) : PV M W X (.BinOp a .Add b pos) (eOp dAdd fa fb) := by
  obtain ⟨ta, ea, qa⟩ := ha
  obtain ⟨tb, eb, qb⟩ := hb
  exact ⟨_, pe_op (r := rAddAll M.F.K) (by rw [← c.hK]; exact op_addAll) ea eb, tr_op opH_add.opT qa qb⟩
theorem pn_add (c : CO M W k X) (ha : PV M W X a fa) (hb : PV M W X b fb) : PN M W X (.BinOp a .Add b pos) (eOpN dCat fa fb) := by
  obtain ⟨ta, ea, qa⟩ := ha
  obtain ⟨tb, eb, qb⟩ := hb
  exact ⟨_, pe_op (r := rAddAll M.F.K) (by rw [← c.hK]; exact op_addAll) ea eb, trN_op opN_cat qa qb⟩
theorem pv_mul (c : CO M W k X) (ha : PV M W X a fa) (hb : PV M W X b fb) : PV M W X (.BinOp a .Mult b pos) (eOp dMul fa fb) := by
  obtain ⟨ta, ea, qa⟩ := ha
  obtain ⟨tb, eb, qb⟩ := hb
  exact ⟨_, pe_op (r := rMulAll M.F.K) (by rw [← c.hK]; exact op_mulAll) ea eb, tr_op opH_mul.opT qa qb⟩
theorem pn_mul (c : CO M W k X) (ha : PV M W X a fa) (hb : PV M W X b fb) : PN M W X (.BinOp a .Mult b pos) (eOpN dRep fa fb) := by
  obtain ⟨ta, ea, qa⟩ := ha
  obtain ⟨tb, eb, qb⟩ := hb
  exact ⟨_, pe_op (r := rMulAll M.F.K) (by rw [← c.hK]; exact op_mulAll) ea eb, trN_op opN_rep qa qb⟩
end

/-! ### calls by values -/
def CallT (M : Fr) (W : WX) (r : List V → Hp → VK → Prop) (g : List D → Res D) : Prop :=
  ∀ (ds : List D) (vs : List V) (σ : St) (G H : Hp) (ε : Ev), SR M G H σ ε → RpL M.F G ds vs → ∀ Q : VK, Post M W σ G H ε (Rp M.F) ((g ds).bind fun d => .ok (d, ε)) Q → r vs H Q
def CallN (M : Fr) (W : WX) (r : List V → Hp → VK → Prop) (g : List D → Res (List D)) : Prop :=
  ∀ (ds : List D) (vs : List V) (σ : St) (G H : Hp) (ε : Ev), SR M G H σ ε → RpL M.F G ds vs → ∀ Q : VK, PostN M W σ G H ε ((g ds).bind fun d => .ok (d, ε)) Q → r vs H Q
@[reducible, simp] def eCB (g : List D → Res D) (fs : Ev → Res (List D × Ev)) : Ev → Res (D × Ev) := fun ε => (fs ε).bind fun p => (g p.1).bind fun d => .ok (d, p.2)
@[reducible] def eCN (g : List D → Res (List D)) (fs : Ev → Res (List D × Ev)) : Ev → Res (List D × Ev) := fun ε => (fs ε).bind fun p => (g p.1).bind fun d => .ok (d, p.2)
theorem tr_cb {M : Fr} {W : WX} {r : List V → Hp → VK → Prop} {g : List D → Res D} {t : TA} {fs : Ev → Res (List D × Ev)} (h : CallT M W r g) (ht : Tr M W (RpL M.F) t fs) : Tr M W (Rp M.F) (tCB r t) (eCB g fs) := by
  refine Tr.bind (f2 := fun ds ε => (g ds).bind fun d => .ok (d, ε)) (t2 := fun vs σ H1 Q => r vs H1 Q) ht ?_
  intro ds vs σ G H ε s rs Q hp
  exact h ds vs σ G H ε s rs Q hp
theorem tr_cn {M : Fr} {W : WX} {r : List V → Hp → VK → Prop} {g : List D → Res (List D)} {t : TA} {fs : Ev → Res (List D × Ev)} (h : CallN M W r g) (ht : Tr M W (RpL M.F) t fs) : TrN M W (tCB r t) (eCN g fs) := by
  intro σ G H ε s Q hp
  refine ht σ G H ε s _ ?_
  simp only [eCN] at hp
  cases e : fs ε with
  | stuck => rw [e] at hp; exact hp
  | err c => rw [e] at hp; exact hp
  | ok p =>
    rw [e] at hp
    intro vs G1 H1 s1 st1 rs
    exact h p.1 vs σ G1 H1 p.2 s1 rs Q (PostN.shift s1 st1 hp)

def fAbs : List D → Res D
  | [.int i] => .ok (.int (if i < 0 then -i else i))
  | _ => .stuck
def fInt : List D → Res D
  | [.int i] => .ok (.int i)
  | [.bl k] => .ok (.int (if k then 1 else 0))
  | _ => .stuck
@[simp] def fMax2 : List D → Res D
  | [.int i, .int j] => .ok (.int (if j > i then j else i))
  | _ => .stuck
@[simp] def fMin2 : List D → Res D
  | [.int i, .int j] => .ok (.int (if j < i then j else i))
  | _ => .stuck
@[simp] def fGcd : List D → Res D
  | [.int a, .int b] => .ok (.int ((Nat.gcd a.natAbs b.natAbs : Nat) : Int))
  | _ => .stuck
@[simp] def fLen : List D → Res D
  | [.lst ds] => .ok (.int ds.length)
  | [.tup ds] => .ok (.int ds.length)
  | [.str z] => if z.length ≤ 1000000 then .ok (.int z.length) else .stuck
  | _ => .stuck
@[simp] def fTuple : List D → Res D
  | [.lst ds] => .ok (.tup ds)
  | [.tup ds] => .ok (.tup ds)
  | _ => .stuck
def fList : List D → Res (List D)
  | [.scr ns] => .ok (ns.map D.int)
  | [.lst ds] => .ok ds
  | [.tup ds] => .ok ds
  | _ => .stuck
def allI : List D → Option (List Int)
  | [] => some []
  | .int i :: r => (allI r).map (i :: ·)
  | _ :: _ => none
def allB : List D → Option (List Bool)
  | [] => some []
  | .bl i :: r => (allB r).map (i :: ·)
  | _ :: _ => none
theorem allI_map : ∀ {ds : List D} {ns : List Int}, allI ds = some ns → ds = ns.map D.int
  | [], ns, h => by simp only [allI, Option.some.injEq] at h; subst h; rfl
  | d :: ds, ns, h => by
    cases d with
    | int i =>
      simp only [allI] at h
      cases e : allI ds with
      | none => rw [e] at h; cases h
      | some ms =>
        rw [e] at h
        simp only [Option.map_some, Option.some.injEq] at h
        subst h
        rw [allI_map e]; rfl
    | _ => simp [allI] at h
theorem allB_map : ∀ {ds : List D} {ns : List Bool}, allB ds = some ns → ds = ns.map D.bl
  | [], ns, h => by simp only [allB, Option.some.injEq] at h; subst h; rfl
  | d :: ds, ns, h => by
    cases d with
    | bl i =>
      simp only [allB] at h
      cases e : allB ds with
      | none => rw [e] at h; cases h
      | some ms =>
        rw [e] at h
        simp only [Option.map_some, Option.some.injEq] at h
        subst h
        rw [allB_map e]; rfl
    | _ => simp [allB] at h
@[simp] theorem allI_of (ns : List Int) : allI (ns.map D.int) = some ns := by
  induction ns with
  | nil => rfl
  | cons n ns ih => simp [allI, ih]
@[simp] theorem allB_of (ns : List Bool) : allB (ns.map D.bl) = some ns := by
  induction ns with
  | nil => rfl
  | cons n ns ih => simp [allB, ih]
def fAll : List D → Res D
  | [.lst ds] => match allB ds with
    | some bs => .ok (.bl (bs.all id))
    | none => .stuck
  | _ => .stuck
def fAny : List D → Res D
  | [.lst ds] => match allB ds with
    | some bs => .ok (.bl (bs.any id))
    | none => .stuck
  | _ => .stuck
def fSum : List D → Res D
  | [.lst ds] => match allI ds with
    | some ns => .ok (.int ns.sum)
    | none => .stuck
  | _ => .stuck
def maxI : List Int → Int
  | [] => 0
  | n :: ns => ns.foldl max n
def minI : List Int → Int
  | [] => 0
  | n :: ns => ns.foldl min n
def fMaxL : List D → Res D
  | [.lst ds] => match allI ds with
    | some (n :: ns) => .ok (.int (maxI (n :: ns)))
    | _ => .stuck
  | _ => .stuck
def fMinL : List D → Res D
  | [.lst ds] => match allI ds with
    | some (n :: ns) => .ok (.int (minI (n :: ns)))
    | _ => .stuck
  | _ => .stuck
def combOk (a b : Int) : Bool := decide (0 ≤ a ∧ 0 ≤ b ∧ a ≤ 18000)
def fComb : List D → Res D
  | [.int a, .int b] => if combOk a b then .ok (.int (PySem.W.mcComb a b)) else .stuck
  | _ => .stuck
def fFact : List D → Res D
  | [.int a] => if decide (0 ≤ a ∧ a ≤ 20000) then .ok (.int ((Builtin.Math.factorialNat a.toNat : Nat) : Int)) else .stuck
  | _ => .stuck
theorem foldl_max_mem : ∀ (ns : List Int) (n : Int), ns.foldl max n = n ∨ ns.foldl max n ∈ ns
  | [], n => .inl rfl
  | m :: ns, n => by
    rcases foldl_max_mem ns (max n m) with h | h
    · rw [List.foldl_cons, h]
      rcases Int.le_total n m with z | z
      · rw [Int.max_eq_right z]; exact .inr List.mem_cons_self
      · rw [Int.max_eq_left z]; exact .inl rfl
    · exact .inr (List.mem_cons_of_mem _ h)
theorem foldl_max_ge : ∀ (ns : List Int) (n : Int), n ≤ ns.foldl max n ∧ ∀ y ∈ ns, y ≤ ns.foldl max n
  | [], n => ⟨Int.le_refl _, fun y h => by simp at h⟩
  | m :: ns, n => by
    obtain ⟨h1, h2⟩ := foldl_max_ge ns (max n m)
    rw [List.foldl_cons]
    refine ⟨by omega, fun y hy => ?_⟩
    rcases List.mem_cons.mp hy with rfl | hy
    · omega
    · exact h2 y hy
theorem foldl_min_mem : ∀ (ns : List Int) (n : Int), ns.foldl min n = n ∨ ns.foldl min n ∈ ns
  | [], n => .inl rfl
  | m :: ns, n => by
    rcases foldl_min_mem ns (min n m) with h | h
    · rw [List.foldl_cons, h]
      rcases Int.le_total n m with z | z
      · rw [Int.min_eq_left z]; exact .inl rfl
      · rw [Int.min_eq_right z]; exact .inr List.mem_cons_self
    · exact .inr (List.mem_cons_of_mem _ h)
theorem foldl_min_le : ∀ (ns : List Int) (n : Int), ns.foldl min n ≤ n ∧ ∀ y ∈ ns, ns.foldl min n ≤ y
  | [], n => ⟨Int.le_refl _, fun y h => by simp at h⟩
  | m :: ns, n => by
    obtain ⟨h1, h2⟩ := foldl_min_le ns (min n m)
    rw [List.foldl_cons]
    refine ⟨by omega, fun y hy => ?_⟩
    rcases List.mem_cons.mp hy with rfl | hy
    · omega
    · exact h2 y hy

theorem rpL1 {F : Fx} {G : Hp} {d : D} {vs : List V} (h : RpL F G [d] vs) : ∃ v, vs = [v] ∧ Rp F G d v := by
  obtain ⟨v, r, rfl, a, l⟩ := h.of_cons
  rw [l.of_nil]
  exact ⟨v, rfl, a⟩
theorem rpL2 {F : Fx} {G : Hp} {d e : D} {vs : List V} (h : RpL F G [d, e] vs) : ∃ v w, vs = [v, w] ∧ Rp F G d v ∧ Rp F G e w := by
  obtain ⟨v, r, rfl, a, l⟩ := h.of_cons
  obtain ⟨w, rfl, b⟩ := rpL1 l
  exact ⟨v, w, rfl, a, b⟩
theorem rpL_ints {F : Fx} {G : Hp} : ∀ ns : List Int, RpL F G (ns.map D.int) (ns.map V.int)
  | [] => RpL.nil
  | n :: ns => RpL.cons (rp_int.mpr rfl) (rpL_ints ns)
section
variable {M : Fr} {W : WX}
theorem ct_abs : CallT M W (fun xs H Q => ∃ i, xs = [.int i] ∧ Q (.int (if i < 0 then -i else i)) H) fAbs := by
  intro ds vs σ G H ε s rs Q hp
  unfold fAbs at hp
  split at hp
  · obtain ⟨v, rfl, r⟩ := rpL1 rs
    rw [rp_int] at r; subst r
    exact ⟨_, rfl, post_ok hp s (rp_int.mpr rfl)⟩
  · exact hp.elim
theorem ct_int : CallT M W (fun xs H Q => (∃ i, xs = [.int i] ∧ Q (.int i) H) ∨ ∃ k, xs = [.bl k] ∧ Q (.int (if k then 1 else 0)) H) fInt := by
  intro ds vs σ G H ε s rs Q hp
  unfold fInt at hp
  split at hp
  · obtain ⟨v, rfl, r⟩ := rpL1 rs
    rw [rp_int] at r; subst r
    exact .inl ⟨_, rfl, post_ok hp s (rp_int.mpr rfl)⟩
  · obtain ⟨v, rfl, r⟩ := rpL1 rs
    rw [rp_bl] at r; subst r
    exact .inr ⟨_, rfl, post_ok hp s (rp_int.mpr rfl)⟩
  · exact hp.elim
theorem ct_max2 : CallT M W (fun xs H Q => ∃ i j, xs = [.int i, .int j] ∧ Q (.int (if j > i then j else i)) H) fMax2 := by
  intro ds vs σ G H ε s rs Q hp
  unfold fMax2 at hp
  split at hp
  · obtain ⟨v, w, rfl, r, r2⟩ := rpL2 rs
    rw [rp_int] at r r2; subst r r2
    exact ⟨_, _, rfl, post_ok hp s (rp_int.mpr rfl)⟩
  · exact hp.elim
theorem ct_min2 : CallT M W (fun xs H Q => ∃ i j, xs = [.int i, .int j] ∧ Q (.int (if j < i then j else i)) H) fMin2 := by
  intro ds vs σ G H ε s rs Q hp
  unfold fMin2 at hp
  split at hp
  · obtain ⟨v, w, rfl, r, r2⟩ := rpL2 rs
    rw [rp_int] at r r2; subst r r2
    exact ⟨_, _, rfl, post_ok hp s (rp_int.mpr rfl)⟩
  · exact hp.elim
theorem ct_gcd : CallT M W rGcd fGcd := by
  intro ds vs σ G H ε s rs Q hp
  unfold fGcd at hp
  split at hp
  · obtain ⟨v, w, rfl, r, r2⟩ := rpL2 rs
    rw [rp_int] at r r2; subst r r2
    exact ⟨_, _, rfl, post_ok hp s (rp_int.mpr rfl)⟩
  · exact hp.elim
def rLenAll (K : PySem.W.Frag) : List V → Hp → VK → Prop := fun xs H Q => (∃ p ys, xs = [.ref p] ∧ (SqL K H p ys ∨ SqT K H p ys) ∧ Q (.int ys.length) H) ∨ ∃ z, xs = [.str z] ∧ z.length ≤ sizeLine ∧ Q (.int z.length) H
theorem call_lenAll {X : Cx} : CallR X (.builtin "len") (rLenAll X.K) := call_len_seq.or call_len_str
theorem ct_len : CallT M W (rLenAll M.F.K) fLen := by
  intro ds vs σ G H ε s rs Q hp
  unfold fLen at hp
  split at hp
  · obtain ⟨v, rfl, r⟩ := rpL1 rs
    obtain ⟨p, ws, rfl, hp', l⟩ := rp_lst.mp r
    refine .inl ⟨p, ws, rfl, .inl (SqL.of (s.sub _ _ hp')), ?_⟩
    rw [← l.length]
    exact post_ok hp s (rp_int.mpr rfl)
  · obtain ⟨v, rfl, r⟩ := rpL1 rs
    obtain ⟨p, ws, rfl, hp', l⟩ := rp_tup.mp r
    refine .inl ⟨p, ws, rfl, .inr (sqT_mono s.sub hp'), ?_⟩
    rw [← l.length]
    exact post_ok hp s (rp_int.mpr rfl)
  · obtain ⟨v, rfl, r⟩ := rpL1 rs
    rw [rp_str] at r; subst r
    split at hp
    · rename_i hz
      exact .inr ⟨_, rfl, line_big hz, post_ok hp s (rp_int.mpr rfl)⟩
    · exact hp.elim
  · exact hp.elim
theorem ct_tuple : CallT M W (fun xs H Q => ∃ p ys, xs = [.ref p] ∧ ((SqL M.F.K H p ys ∧ ∀ l, H l = none → Q (.ref l) (upd H l (.tup ys))) ∨ (SqT M.F.K H p ys ∧ Q (.ref p) H))) fTuple := by
  intro ds vs σ G H ε s rs Q hp
  unfold fTuple at hp
  split at hp
  · obtain ⟨v, rfl, r⟩ := rpL1 rs
    obtain ⟨p, ws, rfl, hp', l⟩ := rp_lst.mp r
    refine ⟨p, ws, rfl, .inl ⟨SqL.of (s.sub _ _ hp'), fun q hq => ?_⟩⟩
    exact post_new hp s hq (fun ps z => by cases z) (rp_tup.mpr ⟨q, _, rfl, .inl (.inl upd_same), l.mono (up_mono (s.gnone hq))⟩)
  · obtain ⟨v, rfl, r⟩ := rpL1 rs
    obtain ⟨p, ws, rfl, hp', l⟩ := rp_tup.mp r
    exact ⟨p, ws, rfl, .inr ⟨sqT_mono s.sub hp', post_ok hp s (rp_tup.mpr ⟨p, ws, rfl, hp', l⟩)⟩⟩
  · exact hp.elim
theorem cn_list : CallN M W (fun xs H Q => ∃ p ys, xs = [.ref p] ∧ (SqL M.F.K H p ys ∨ SqT M.F.K H p ys) ∧ ∀ l, H l = none → Q (.ref l) (upd H l (.lst ys))) fList := by
  intro ds vs σ G H ε s rs Q hp
  unfold fList at hp
  split at hp
  · rename_i ns
    obtain ⟨v, rfl, r⟩ := rpL1 rs
    obtain ⟨p, rfl, hq⟩ : ∃ a, v = .ref a ∧ SqL M.F.K G a (ns.map V.int) := by simpa only [Rp] using r
    exact ⟨p, _, rfl, .inl (sqL_mono s.sub hq), fun q hq => postN_new hp s hq (rpL_ints ns)⟩
  · obtain ⟨v, rfl, r⟩ := rpL1 rs
    obtain ⟨p, ws, rfl, hp', l⟩ := rp_lst.mp r
    exact ⟨p, ws, rfl, .inl (SqL.of (s.sub _ _ hp')), fun q hq => postN_new hp s hq l⟩
  · obtain ⟨v, rfl, r⟩ := rpL1 rs
    obtain ⟨p, ws, rfl, hp', l⟩ := rp_tup.mp r
    exact ⟨p, ws, rfl, .inr (sqT_mono s.sub hp'), fun q hq => postN_new hp s hq l⟩
  · exact hp.elim
theorem ct_all : CallT M W (rAll M.F.K) fAll := by
  intro ds vs σ G H ε s rs Q hp
  unfold fAll at hp
  split at hp
  · split at hp
    · rename_i bs e
      obtain ⟨v, rfl, r⟩ := rpL1 rs
      obtain ⟨p, ws, rfl, hp', l⟩ := rp_lst.mp r
      rw [allB_map e] at l
      have e2 := l.mapB
      subst e2
      exact ⟨p, bs, rfl, SqL.of (s.sub _ _ hp'), post_ok hp s (rp_bl.mpr rfl)⟩
    · exact hp.elim
  · exact hp.elim
theorem ct_any : CallT M W (rAny M.F.K) fAny := by
  intro ds vs σ G H ε s rs Q hp
  unfold fAny at hp
  split at hp
  · split at hp
    · rename_i bs e
      obtain ⟨v, rfl, r⟩ := rpL1 rs
      obtain ⟨p, ws, rfl, hp', l⟩ := rp_lst.mp r
      rw [allB_map e] at l
      have e2 := l.mapB
      subst e2
      exact ⟨p, bs, rfl, SqL.of (s.sub _ _ hp'), post_ok hp s (rp_bl.mpr rfl)⟩
    · exact hp.elim
  · exact hp.elim
theorem ct_sum : CallT M W (rSum M.F.K) fSum := by
  intro ds vs σ G H ε s rs Q hp
  unfold fSum at hp
  split at hp
  · split at hp
    · rename_i bs e
      obtain ⟨v, rfl, r⟩ := rpL1 rs
      obtain ⟨p, ws, rfl, hp', l⟩ := rp_lst.mp r
      rw [allI_map e] at l
      have e2 := l.mapI
      subst e2
      exact ⟨p, bs, rfl, SqL.of (s.sub _ _ hp'), post_ok hp s (rp_int.mpr rfl)⟩
    · exact hp.elim
  · exact hp.elim
theorem ct_maxL : CallT M W (rMax M.F.K) fMaxL := by
  intro ds vs σ G H ε s rs Q hp
  unfold fMaxL at hp
  split at hp
  · split at hp
    · rename_i n ns e
      obtain ⟨v, rfl, r⟩ := rpL1 rs
      obtain ⟨p, ws, rfl, hp', l⟩ := rp_lst.mp r
      rw [allI_map e] at l
      have e2 := l.mapI
      subst e2
      refine ⟨p, n :: ns, rfl, SqL.of (s.sub _ _ hp'), Nat.succ_pos _, fun m hm hle => ?_⟩
      have em : m = maxI (n :: ns) := by
        have h1 := foldl_max_ge ns n
        have h2 := foldl_max_mem ns n
        have h3 : maxI (n :: ns) ≤ m := by
          rcases h2 with z | z
          · rw [show maxI (n :: ns) = ns.foldl max n from rfl, z]; exact hle _ List.mem_cons_self
          · exact hle _ (List.mem_cons_of_mem _ z)
        have h4 : m ≤ maxI (n :: ns) := by
          rcases List.mem_cons.mp hm with rfl | z
          · exact h1.1
          · exact h1.2 _ z
        omega
      rw [em]
      exact post_ok hp s (rp_int.mpr rfl)
    · exact hp.elim
  · exact hp.elim
theorem ct_minL : CallT M W (rMin M.F.K) fMinL := by
  intro ds vs σ G H ε s rs Q hp
  unfold fMinL at hp
  split at hp
  · split at hp
    · rename_i n ns e
      obtain ⟨v, rfl, r⟩ := rpL1 rs
      obtain ⟨p, ws, rfl, hp', l⟩ := rp_lst.mp r
      rw [allI_map e] at l
      have e2 := l.mapI
      subst e2
      refine ⟨p, n :: ns, rfl, SqL.of (s.sub _ _ hp'), Nat.succ_pos _, fun m hm hle => ?_⟩
      have em : m = minI (n :: ns) := by
        have h1 := foldl_min_le ns n
        have h2 := foldl_min_mem ns n
        have h3 : m ≤ minI (n :: ns) := by
          rcases h2 with z | z
          · rw [show minI (n :: ns) = ns.foldl min n from rfl, z]; exact hle _ List.mem_cons_self
          · exact hle _ (List.mem_cons_of_mem _ z)
        have h4 : minI (n :: ns) ≤ m := by
          rcases List.mem_cons.mp hm with rfl | z
          · exact h1.1
          · exact h1.2 _ z
        omega
      rw [em]
      exact post_ok hp s (rp_int.mpr rfl)
    · exact hp.elim
  · exact hp.elim
def rComb : List V → Hp → VK → Prop := fun vs H Q => ∃ a b : Int, vs = [.int a, .int b] ∧ combOk a b = true ∧ Q (.int (PySem.W.mcComb a b)) H
theorem cr_comb {X : Cx} : CallR X (.builtin "math.comb") rComb := by
  intro pins s σ H vs us Q I r h
  obtain ⟨a, b, rfl, ok, q⟩ := h
  obtain ⟨t, u, rfl⟩ := Vals.int2 r
  have ok' := of_decide_eq_true ok
  exact PySem.W.mc_comb (by omega) (by omega) (by omega) (.inr (by omega)) fun _ => ⟨.int _, H, I.tok _, ⟨_, rfl⟩, q⟩
def rFact : List V → Hp → VK → Prop := fun vs H Q => ∃ a : Int, vs = [.int a] ∧ 0 ≤ a ∧ a ≤ 20000 ∧ Q (.int ((Builtin.Math.factorialNat a.toNat : Nat) : Int)) H
theorem cr_fact {X : Cx} : CallR X (.builtin "math.factorial") rFact := by
  intro pins s σ H vs us Q I r h
  obtain ⟨a, rfl, h0, h1, q⟩ := h
  obtain ⟨u, rfl, t, rfl⟩ := vals1 r
  exact PySem.W.mc_factorial h0 h1 fun _ => ⟨.int _, H, I.tok _, ⟨_, rfl⟩, q⟩
theorem ct_comb : CallT M W rComb fComb := by
  intro ds vs σ G H ε s rs Q hp
  unfold fComb at hp
  split at hp
  · obtain ⟨v, w, rfl, r, r2⟩ := rpL2 rs
    rw [rp_int] at r r2; subst r r2
    split at hp
    · rename_i h
      exact ⟨_, _, rfl, h, post_ok hp s (rp_int.mpr rfl)⟩
    · exact hp.elim
  · exact hp.elim
theorem ct_fact : CallT M W rFact fFact := by
  intro ds vs σ G H ε s rs Q hp
  unfold fFact at hp
  split at hp
  · obtain ⟨v, rfl, r⟩ := rpL1 rs
    rw [rp_int] at r; subst r
    split at hp
    · rename_i h
      have h' := of_decide_eq_true h
      exact ⟨_, rfl, h'.1, h'.2, post_ok hp s (rp_int.mpr rfl)⟩
    · exact hp.elim
  · exact hp.elim
/-! isinstance -/
def tyName : D → Option String
  | .non => some "NoneType"
  | .bl _ => some "bool"
  | .int _ => some "int"
  | .str _ => some "str"
  | .tup _ => some "tuple"
  | .lst _ => some "list"
  | .fn _ => none
  | .scr _ => none
def fIsi (T : String) : List D → Res D
  | [d] => match tyName d with
    | some t => match kitB t T with
      | some b => .ok (.bl b)
      | none => .stuck
    | none => .stuck
  | _ => .stuck
theorem tyx_of {K : PySem.W.Frag} {F : Fx} {G H : Hp} (hK : K = F.K) (sub : ∀ q o, G q = some o → H q = some o) {d : D} {v : V} {t : String} (r : Rp F G d v) (e : tyName d = some t) : TyX K H v (.type t) := by
  cases d with
  | non => cases e; rw [rp_non] at r; subst r; exact .base .non
  | bl b => cases e; rw [rp_bl] at r; subst r; exact .base (.bl b)
  | int b => cases e; rw [rp_int] at r; subst r; exact .base (.int b)
  | str b => cases e; rw [rp_str] at r; subst r; exact .base (.str b)
  | tup ds =>
    cases e
    obtain ⟨a, vs, rfl, h, _⟩ := rp_tup.mp r
    rcases h with (h | ⟨o, h⟩) | ⟨o, its, n, h1, h2, _⟩
    · exact .base (.tup (sub _ _ h))
    · exact .fTuple (sub _ _ h)
    · exact .kTuple (by rw [hK]; exact h1) h2
  | lst ds =>
    cases e
    obtain ⟨a, vs, rfl, h, _⟩ := rp_lst.mp r
    exact .base (.lst (sub _ _ h))
  | fn k => cases e
  | scr k => cases e
end
section
variable {M : Fr} {W : WX} {X : Cx} {k : Nat} {a b e : Expr} {es rest : List Expr} {fa fb f : Ev → Res (D × Ev)} {g : Ev → Res (List D × Ev)} {pos : Pos}
/-- a built-in function by its name -/
theorem pv_callB {x : Str} {id : String} {p : Pos} {r : List V → Hp → VK → Prop} {gf : List D → Res D} {fs : Ev → Res (List D × Ev)} (hc : CallR X (.builtin id) r) (hT : CallT M W r gf) (hm : X.mg x = none) (hv : bootBuiltins x = some (.builtin id)) (ha : PA' M W X (e :: es) fs)
    (hg : Gl X x := by rfl) (hn : x ≠ "__name__" := by decide) (hdb : (x == ("__debug__" : Str)) = false := by decide)
    (he : starEach (e :: es) X.env = (false, eval e X.env) :: starEach es X.env := by rfl) (hpl : (backTo pos (starEach es X.env)).any (·.1) = false := by rfl) : PV M W X (.Call (.Name x p) (e :: es) [] pos) (eCB gf fs) := by
  obtain ⟨⟨t, et, qt⟩, _⟩ := ha
  exact ⟨_, pe_callB hc hg hm hv et hn hdb he hpl, tr_cb hT qt⟩
theorem pv_callTy {x : Str} {T : String} {p : Pos} {r : List V → Hp → VK → Prop} {gf : List D → Res D} {fs : Ev → Res (List D × Ev)} (hc : CallR X (.type T) r) (hT : CallT M W r gf) (hm : X.mg x = none) (hv : bootBuiltins x = some (.type T)) (ha : PA' M W X (e :: es) fs)
    (hg : Gl X x := by rfl) (hn : x ≠ "__name__" := by decide) (hdb : (x == ("__debug__" : Str)) = false := by decide)
    (he : starEach (e :: es) X.env = (false, eval e X.env) :: starEach es X.env := by rfl) (hpl : (backTo pos (starEach es X.env)).any (·.1) = false := by rfl) : PV M W X (.Call (.Name x p) (e :: es) [] pos) (eCB gf fs) := by
  obtain ⟨⟨t, et, qt⟩, _⟩ := ha
  exact ⟨_, pe_callTy hc hg hm hv et hn hdb he hpl, tr_cb hT qt⟩
theorem pn_callTy {x : Str} {T : String} {p : Pos} {r : List V → Hp → VK → Prop} {gf : List D → Res (List D)} {fs : Ev → Res (List D × Ev)} (hc : CallR X (.type T) r) (hT : CallN M W r gf) (hm : X.mg x = none) (hv : bootBuiltins x = some (.type T)) (ha : PA' M W X (e :: es) fs)
    (hg : Gl X x := by rfl) (hn : x ≠ "__name__" := by decide) (hdb : (x == ("__debug__" : Str)) = false := by decide)
    (he : starEach (e :: es) X.env = (false, eval e X.env) :: starEach es X.env := by rfl) (hpl : (backTo pos (starEach es X.env)).any (·.1) = false := by rfl) : PN M W X (.Call (.Name x p) (e :: es) [] pos) (eCN gf fs) := by
  obtain ⟨⟨t, et, qt⟩, _⟩ := ha
  exact ⟨_, pe_callTy hc hg hm hv et hn hdb he hpl, tr_cn hT qt⟩
/-- a module's name for a built-in function -/
theorem pv_callM {x : Str} {id : String} {p : Pos} {r : List V → Hp → VK → Prop} {gf : List D → Res D} {fs : Ev → Res (List D × Ev)} (hc : CallR X (.builtin id) r) (hT : CallT M W r gf) (hm : X.mg x = some (.builtin id)) (ha : PA' M W X (e :: es) fs)
    (hg : Gl X x := by rfl) (hdb : (x == ("__debug__" : Str)) = false := by decide)
    (he : starEach (e :: es) X.env = (false, eval e X.env) :: starEach es X.env := by rfl) (hpl : (backTo pos (starEach es X.env)).any (·.1) = false := by rfl) : PV M W X (.Call (.Name x p) (e :: es) [] pos) (eCB gf fs) := by
  obtain ⟨⟨t, et, qt⟩, _⟩ := ha
  exact ⟨_, pe_callBfun hc hg hm et hdb he hpl, tr_cb hT qt⟩

theorem pv_abs {p : Pos} {fs} (hm : X.mg "abs" = none) (ha : PA' M W X [e] fs) (hg : Gl X "abs" := by rfl) (he : starEach [e] X.env = (false, eval e X.env) :: starEach [] X.env := by rfl) : PV M W X (.Call (.Name "abs" p) [e] [] pos) (eCB fAbs fs) :=
  pv_callB call_abs ct_abs hm (by decide +kernel) ha hg (by decide) (by decide) he rfl
theorem pv_intc {p : Pos} {fs} (hm : X.mg "int" = none) (ha : PA' M W X [e] fs) (hg : Gl X "int" := by rfl) (he : starEach [e] X.env = (false, eval e X.env) :: starEach [] X.env := by rfl) : PV M W X (.Call (.Name "int" p) [e] [] pos) (eCB fInt fs) :=
  pv_callTy call_int1 ct_int hm (by decide +kernel) ha hg (by decide) (by decide) he rfl
theorem pv_len (c : CO M W k X) {p : Pos} {fs} (hm : X.mg "len" = none) (ha : PA' M W X [e] fs) (hg : Gl X "len" := by rfl) (he : starEach [e] X.env = (false, eval e X.env) :: starEach [] X.env := by rfl) : PV M W X (.Call (.Name "len" p) [e] [] pos) (eCB fLen fs) :=
  pv_callB (by rw [← c.hK]; exact call_lenAll) ct_len hm (by decide +kernel) ha hg (by decide) (by decide) he rfl
theorem pv_tuple (c : CO M W k X) {p : Pos} {fs} (hm : X.mg "tuple" = none) (ha : PA' M W X [e] fs) (hg : Gl X "tuple" := by rfl) (he : starEach [e] X.env = (false, eval e X.env) :: starEach [] X.env := by rfl) : PV M W X (.Call (.Name "tuple" p) [e] [] pos) (eCB fTuple fs) :=
  pv_callTy (by rw [← c.hK]; exact call_tuple_of) ct_tuple hm (by decide +kernel) ha hg (by decide) (by decide) he rfl
theorem pn_list (c : CO M W k X) {p : Pos} {fs} (hm : X.mg "list" = none) (ha : PA' M W X [e] fs) (hg : Gl X "list" := by rfl) (he : starEach [e] X.env = (false, eval e X.env) :: starEach [] X.env := by rfl) : PN M W X (.Call (.Name "list" p) [e] [] pos) (eCN fList fs) :=
  pn_callTy (by rw [← c.hK]; exact call_list_of) cn_list hm (by decide +kernel) ha hg (by decide) (by decide) he rfl
theorem pv_all (c : CO M W k X) {p : Pos} {fs} (hm : X.mg "all" = none) (ha : PA' M W X [e] fs) (hg : Gl X "all" := by rfl) (he : starEach [e] X.env = (false, eval e X.env) :: starEach [] X.env := by rfl) : PV M W X (.Call (.Name "all" p) [e] [] pos) (eCB fAll fs) :=
  pv_callB (by rw [← c.hK]; exact cr_all c.calm) ct_all hm (by decide +kernel) ha hg (by decide) (by decide) he rfl
theorem pv_any (c : CO M W k X) {p : Pos} {fs} (hm : X.mg "any" = none) (ha : PA' M W X [e] fs) (hg : Gl X "any" := by rfl) (he : starEach [e] X.env = (false, eval e X.env) :: starEach [] X.env := by rfl) : PV M W X (.Call (.Name "any" p) [e] [] pos) (eCB fAny fs) :=
  pv_callB (by rw [← c.hK]; exact cr_any c.calm) ct_any hm (by decide +kernel) ha hg (by decide) (by decide) he rfl
theorem pv_sum (c : CO M W k X) {p : Pos} {fs} (hm : X.mg "sum" = none) (ha : PA' M W X [e] fs) (hg : Gl X "sum" := by rfl) (he : starEach [e] X.env = (false, eval e X.env) :: starEach [] X.env := by rfl) : PV M W X (.Call (.Name "sum" p) [e] [] pos) (eCB fSum fs) :=
  pv_callB (by rw [← c.hK]; exact cr_sum c.calm) ct_sum hm (by decide +kernel) ha hg (by decide) (by decide) he rfl
theorem pv_max1 (c : CO M W k X) {p : Pos} {fs} (hm : X.mg "max" = none) (ha : PA' M W X [e] fs) (hg : Gl X "max" := by rfl) (he : starEach [e] X.env = (false, eval e X.env) :: starEach [] X.env := by rfl) : PV M W X (.Call (.Name "max" p) [e] [] pos) (eCB fMaxL fs) :=
  pv_callB (by rw [← c.hK]; exact cr_max c.calm) ct_maxL hm (by decide +kernel) ha hg (by decide) (by decide) he rfl
theorem pv_min1 (c : CO M W k X) {p : Pos} {fs} (hm : X.mg "min" = none) (ha : PA' M W X [e] fs) (hg : Gl X "min" := by rfl) (he : starEach [e] X.env = (false, eval e X.env) :: starEach [] X.env := by rfl) : PV M W X (.Call (.Name "min" p) [e] [] pos) (eCB fMinL fs) :=
  pv_callB (by rw [← c.hK]; exact cr_min c.calm) ct_minL hm (by decide +kernel) ha hg (by decide) (by decide) he rfl
theorem pv_max2 (c : CO M W k X) {e2 : Expr} {p : Pos} {fs} (hm : X.mg "max" = none) (ha : PA' M W X [e, e2] fs) (hg : Gl X "max" := by rfl) (he : starEach [e, e2] X.env = (false, eval e X.env) :: starEach [e2] X.env := by rfl) (hpl : (backTo pos (starEach [e2] X.env)).any (·.1) = false := by rfl) : PV M W X (.Call (.Name "max" p) [e, e2] [] pos) (eCB fMax2 fs) :=
  pv_callB (call_max2 c.calm) ct_max2 hm (by decide +kernel) ha hg (by decide) (by decide) he hpl
theorem pv_min2 (c : CO M W k X) {e2 : Expr} {p : Pos} {fs} (hm : X.mg "min" = none) (ha : PA' M W X [e, e2] fs) (hg : Gl X "min" := by rfl) (he : starEach [e, e2] X.env = (false, eval e X.env) :: starEach [e2] X.env := by rfl) (hpl : (backTo pos (starEach [e2] X.env)).any (·.1) = false := by rfl) : PV M W X (.Call (.Name "min" p) [e, e2] [] pos) (eCB fMin2 fs) :=
  pv_callB (call_min2 c.calm) ct_min2 hm (by decide +kernel) ha hg (by decide) (by decide) he hpl
theorem pv_gcd {e2 : Expr} {x : Str} {p : Pos} {fs} (hm : X.mg x = some (.builtin "math.gcd")) (ha : PA' M W X [e, e2] fs) (hg : Gl X x := by rfl) (hdb : (x == ("__debug__" : Str)) = false := by decide) (he : starEach [e, e2] X.env = (false, eval e X.env) :: starEach [e2] X.env := by rfl) (hpl : (backTo pos (starEach [e2] X.env)).any (·.1) = false := by rfl) : PV M W X (.Call (.Name x p) [e, e2] [] pos) (eCB fGcd fs) :=
  pv_callM cr_gcd ct_gcd hm ha hg hdb he hpl
theorem pv_comb {e2 : Expr} {x : Str} {p : Pos} {fs} (hm : X.mg x = some (.builtin "math.comb")) (ha : PA' M W X [e, e2] fs) (hg : Gl X x := by rfl) (hdb : (x == ("__debug__" : Str)) = false := by decide) (he : starEach [e, e2] X.env = (false, eval e X.env) :: starEach [e2] X.env := by rfl) (hpl : (backTo pos (starEach [e2] X.env)).any (·.1) = false := by rfl) : PV M W X (.Call (.Name x p) [e, e2] [] pos) (eCB fComb fs) :=
  pv_callM cr_comb ct_comb hm ha hg hdb he hpl
theorem pv_fact {x : Str} {p : Pos} {fs} (hm : X.mg x = some (.builtin "math.factorial")) (ha : PA' M W X [e] fs) (hg : Gl X x := by rfl) (hdb : (x == ("__debug__" : Str)) = false := by decide) (he : starEach [e] X.env = (false, eval e X.env) :: starEach [] X.env := by rfl) : PV M W X (.Call (.Name x p) [e] [] pos) (eCB fFact fs) :=
  pv_callM cr_fact ct_fact hm ha hg hdb he rfl
/-- isinstance(e, T), T a built-in type -/
theorem pv_isi (c : CO M W k X) {x : Str} {T : String} {p p2 : Pos} (hm : X.mg "isinstance" = none) (hx : X.mg x = none) (hv : bootBuiltins x = some (.type T)) (ha : PV M W X e f) (hg : Gl X "isinstance" := by rfl) (hg2 : Gl X x := by rfl) (hn : x ≠ "__name__" := by decide) (hdb : (x == ("__debug__" : Str)) = false := by decide)
    (he : starEach [e, .Name x p2] X.env = (false, eval e X.env) :: starEach [.Name x p2] X.env := by rfl) (he2 : starEach [.Name x p2] X.env = (false, eval (.Name x p2) X.env) :: starEach [] X.env := by rfl) (hpl : (backTo pos (starEach [.Name x p2] X.env)).any (·.1) = false := by rfl) :
    PV M W X (.Call (.Name "isinstance" p) [e, .Name x p2] [] pos) (eUn (fun d => fIsi T [d]) f) := by
  obtain ⟨t, et, qt⟩ := ha
  have h2 : PE X (.Name x p2) (tC (.ty T)) := pe_bltn hg2 hx hv (show RelV (.ty T) (.type T) from rfl) hn hdb
  refine ⟨_, pe_callB call_isi hg hm (by decide +kernel) (L2.pa_cons et (L2.pa_cons h2 L2.pa_nil he2) he) (by decide) (by decide) he hpl, ?_⟩
  refine Tr.bind (f2 := fun d ε => (fIsi T [d]).bind fun r => .ok (r, ε)) (t2 := fun v σ H1 (Q : VK) => rIsi X.K [v, .ty T] H1 Q) qt ?_
  intro d v σ G H ε s rd Q hp
  simp only [fIsi] at hp
  cases e1 : tyName d with
  | none => rw [e1] at hp; exact hp.elim
  | some t =>
    rw [e1] at hp
    simp only at hp
    cases e2 : kitB t T with
    | none => rw [e2] at hp; exact hp.elim
    | some b =>
      rw [e2] at hp
      exact ⟨v, .ty T, .type t, .type T, b, rfl, .ty T, tyx_of c.hK s.sub rd e1, kit_ty e2, post_ok hp s (rp_bl.mpr rfl)⟩
/-- len of a name whose list may be owned -/
@[reducible] def eLenV (i : Nat) : Ev → Res (D × Ev) := fun ε => (getAny ε i).bind fun d => (fLen [d]).bind fun n => .ok (n, ε)
theorem pv_lenV (c : CO M W k X) (i : Nat) {x : Str} {px p : Pos} (hm : X.mg "len" = none) (hN : X.N[i]? = some x := by rfl)
    (hv : Vis X.env.scope x := by first | exact Or.inl rfl | exact Or.inr (Or.inl rfl) | exact Or.inr (Or.inr rfl)) (hd : (x == ("__debug__" : Str)) = false := by decide) (hcd : (x == ("__classdict__" : Str)) = false := by decide)
    (hg : Gl X "len" := by rfl) (he : starEach [.Name x px] X.env = (false, eval (.Name x px) X.env) :: starEach [] X.env := by rfl) : PV M W X (.Call (.Name "len" p) [.Name x px] [] pos) (eLenV i) := by
  refine ⟨_, pe_callB (r := rLenAll M.F.K) (by rw [← c.hK]; exact call_lenAll) hg hm (by decide +kernel) (L2.pa_cons (pe_var hN hv hd hcd) L2.pa_nil he) (by decide) (by decide) he rfl, ?_⟩
  intro σ G H ε s Q hp
  simp only [eLenV] at hp
  cases e0 : getAny ε i with
  | stuck => rw [e0] at hp; exact hp.elim
  | err c => simp only [getAny] at e0; split at e0 <;> cases e0
  | ok d =>
    rw [e0] at hp
    obtain ⟨v, ev, r⟩ := s.any e0
    refine ⟨v, ev, ?_⟩
    cases d with
    | lst ds =>
      obtain ⟨a, vs, rfl, ha, l⟩ := r
      refine .inl ⟨a, vs, rfl, .inl (SqL.of ha), ?_⟩
      rw [← l.length]
      exact post_ok hp s (rp_int.mpr rfl)
    | tup ds =>
      obtain ⟨a, vs, rfl, ha, l⟩ := rpH_tup.mp r
      refine .inl ⟨a, vs, rfl, .inr (sqT_mono s.sub ha), ?_⟩
      rw [← l.length]
      exact post_ok hp s (rp_int.mpr rfl)
    | str z =>
      rw [rpH_str] at r; subst r
      simp only [fLen, Res.bind_ok] at hp
      split at hp
      · rename_i hz
        exact .inr ⟨z, rfl, line_big hz, post_ok hp s (rp_int.mpr rfl)⟩
      · exact hp.elim
    | _ => exact hp.elim
end
end PL
/-! PL, part e: slices. -/
namespace PL
open PySem PySem.Spec PyProof.Rows L2

/-! ### a tuple's slices in the model -/
def whole (lo : Int) (st : Int) (k n : Nat) : Bool := lo == 0 && st == 1 && k == n
section
variable {prog : Program} {w : World} {A : Around} {E : Value → Shared → Prop} {s : Shared}
theorem applied_any {sl : Addr} {vl vu vs : Value} {lo hi st : Option Int} {n : Nat} {Q : Int × Int × Nat → Shared → Prop} (hs : s.heap.IsSliceOf sl vl vu vs) (pl : IsPart vl lo) (pu : IsPart vu hi) (ps : IsPart vs st) (h0 : st ≠ some 0)
    (h : Q ((Builtin.Slice.sliceAdjust lo hi (st.getD 1) n).1, st.getD 1, Builtin.Slice.slicePlaces (Builtin.Slice.sliceAdjust lo hi (st.getD 1) n).1 (Builtin.Slice.sliceAdjust lo hi (st.getD 1) n).2 (st.getD 1)) s) :
    wpAny (model prog w) A (Builtin.Slice.sliceApplied (.ref sl) (pure (n : Int))) Q E s := by
  obtain ⟨os, hos, hcs, hds⟩ := id hs
  unfold Builtin.Slice.sliceApplied Builtin.Slice.sliceFields
  refine wpAny_bind (wpAny_bind (wpAny_field hos hds (x := vl) rfl (wpAny_bind (wpAny_field hos hds (x := vu) rfl (wpAny_bind (wpAny_field hos hds (x := vs) rfl (wpAny_pure ?_)))))))
  refine wpAny_bind (HT.slicePart_ ps ?_)
  have hz : ¬ ((st.getD 1 == (0 : Int)) = true) := by
    cases st with
    | none => decide
    | some c => intro q; exact h0 (by rw [show c = 0 from eq_of_beq q])
  rw [if_neg hz]
  exact wpAny_bind (HT.slicePart_ pl (wpAny_bind (HT.slicePart_ pu (wpAny_bind (wpAny_pure (wpAny_pure h))))))
theorem tup_slice {t sl : Addr} {items : Array Value} {vl vu vs : Value} {lo hi st : Option Int} {a : Int} {k : Nat} {Q : Value → Shared → Prop} (ht : IsTup s.heap t items) (hs : s.heap.IsSliceOf sl vl vu vs) (pl : IsPart vl lo) (pu : IsPart vu hi) (ps : IsPart vs st) (h0 : st ≠ some 0)
    (ha : (Builtin.Slice.sliceAdjust lo hi (st.getD 1) items.size).1 = a) (hk : Builtin.Slice.slicePlaces a (Builtin.Slice.sliceAdjust lo hi (st.getD 1) items.size).2 (st.getD 1) = k)
    (h1 : whole a (st.getD 1) k items.size = true → Q (.ref t) s)
    (h2 : whole a (st.getD 1) k items.size = false → Q (.ref s.heap.objs.size) { s with heap := s.heap.push { cls := .type "tuple", data := .seq ((List.range k).filterMap fun (m : Nat) => items[(a + (m : Int) * st.getD 1).toNat]?).toArray } })
    (hsz : k ≤ sizeLine) : wpAny (model prog w) A (getItem (.ref t) (.ref sl)) Q E s := by
  have hfit : sizeOk (.seq ((List.range k).filterMap fun (m : Nat) => items[(a + (m : Int) * st.getD 1).toNat]?).toArray) := by
    show (((List.range k).filterMap fun (m : Nat) => items[(a + (m : Int) * st.getD 1).toNat]?).toArray).size ≤ sizeLine
    rw [List.size_toArray]
    exact Nat.le_trans (List.length_filterMap_le _ _) (by rw [List.length_range]; exact hsz)
  obtain ⟨os, hos, hcs, hds⟩ := id hs
  have hTs : s.TypeIs (.ref sl) "slice" := ⟨os, hos, hcs⟩
  unfold getItem
  (try with_reducible refine wpAny_holding ?_); (first | refine wpAny_bind (wpAny_pure ?_) | skip); refine wpAny_bind (wpAny_sequenceKey ht.typeIs (by decide) ?_)
  refine wpAny_bind (wpAny_callSpecial?_slot (name := Str.ofString "__getitem__") ht.typeIs PyProof.Rows.slot_tuple_getitem (wpAny_call_entry PyProof.Rows.slot_tuple_getitem ht.typeIs entry_tuple_getitem ?_ (args_tuple_getitem _ _)))
  show wpAny _ _ (Builtin.Tuple.tupleItemsOf (.ref t) >>= _) _ _ s
  refine wpAny_bind (tupleItemsOf_ ht ?_); refine wpAny_bind (wpAny_typeOf hTs ?_); rw [if_pos (by decide)]; refine wpAny_bind (applied_any hs pl pu ps h0 ?_)
  rw [ha, hk]
  show wpAny _ _ (if (a == 0 && st.getD 1 == 1 && k == items.size) = true then _ else _) _ _ s
  by_cases hw : whole a (st.getD 1) k items.size = true
  · rw [if_pos (show (a == 0 && st.getD 1 == 1 && k == items.size) = true from hw)]
    have h := h1 hw
    obtain ⟨o, ho, hc, n, hd⟩ := id ht
    have hTt : s.TypeIs (.ref t) "tuple" := ⟨o, ho, hc⟩
    unfold Builtin.Tuple.tupleIsExact
    refine wpAny_bind (wpAny_bind (wpAny_typeOf hTt (wpAny_pure ?_)))
    rw [if_pos (by decide)]
    exact wpAny_bind (wpAny_rule (wpAny_pure ⟨_, rfl, wpAny_pure h⟩))
  · rw [if_neg (show ¬ (a == 0 && st.getD 1 == 1 && k == items.size) = true from hw)]
    have h := h2 (by simpa using hw)
    first
      | exact wpAny_bind (m := Builtin.Tuple.tupleExact _) (wpAny_newObj_type (wpAny_pure ⟨_, rfl, wpAny_pure h⟩) hfit)
      | exact wpAny_bind (m := Builtin.Tuple.tupleExact _) (wpAny_newObj_type (wpAny_bind (wpAny_pure (wpAny_pure ⟨_, rfl, wpAny_pure h⟩))) hfit)
      | exact wpAny_bind (wpAny_bind (m := Builtin.Tuple.tupleExact _) (wpAny_newObj_type (wpAny_pure (wpAny_pure ⟨_, rfl, wpAny_pure h⟩)) hfit))
      | exact wpAny_bind (wpAny_bind (m := Builtin.Tuple.tupleExact _) (wpAny_newObj_type (wpAny_pure ⟨_, rfl, wpAny_pure h⟩) hfit))
end

/-! ### parts of a slice -/
def RO : Hp → Option Int → Option Int → Prop := fun _ a b => a = b
def PO' (M : Fr) (W : WX) (X : Cx) (e : Option Expr) (f : Ev → Res (Option Int × Ev)) : Prop := ∃ t, PO X e t ∧ Tr M W RO t f
@[reducible, simp] def oN : Ev → Res (Option Int × Ev) := fun ε => .ok (none, ε)
@[reducible, simp] def asI (d : D) : Res Int := match d with
  | .int i => .ok i
  | _ => .stuck
@[reducible, simp] def oS (f : Ev → Res (D × Ev)) : Ev → Res (Option Int × Ev) := fun ε => (f ε).bind fun p => (asI p.1).bind fun i => .ok (some i, p.2)
def cutD (ds : List D) (lo hi : Option Int) : List D := (ds.drop (HT.sIx ds.length 0 lo)).take (HT.sIx ds.length ds.length hi - HT.sIx ds.length 0 lo)
@[simp] def dSl : D → Option Int → Option Int → Res D
  | .lst ds, lo, hi => .ok (.lst (cutD ds lo hi))
  | .tup ds, lo, hi => .ok (.tup (cutD ds lo hi))
  | _, _, _ => .stuck
def dSlN : D → Option Int → Option Int → Res (List D)
  | .lst ds, lo, hi => .ok (cutD ds lo hi)
  | _, _, _ => .stuck
@[reducible, simp] def eSl (f : Ev → Res (D × Ev)) (lo hi : Ev → Res (Option Int × Ev)) : Ev → Res (D × Ev) := fun ε =>
  (f ε).bind fun p => (lo p.2).bind fun q => (hi q.2).bind fun r => (dSl p.1 q.1 r.1).bind fun d => .ok (d, r.2)
@[reducible] def eSlN (f : Ev → Res (D × Ev)) (lo hi : Ev → Res (Option Int × Ev)) : Ev → Res (List D × Ev) := fun ε =>
  (f ε).bind fun p => (lo p.2).bind fun q => (hi q.2).bind fun r => (dSlN p.1 q.1 r.1).bind fun d => .ok (d, r.2)
theorem RpL.cut {F : Fx} {G : Hp} {ds : List D} {vs : List V} (l : RpL F G ds vs) (lo hi : Option Int) : RpL F G (cutD ds lo hi) (cutV vs lo hi) := by
  unfold cutD cutV
  rw [l.length]
  exact (l.drop _).take _
def rSlAll (K : PySem.W.Frag) : V → Option Int → Option Int → Hp → VK → Prop := fun x lo hi H Q => rSlL K x lo hi H Q ∨ rSlA K x lo hi H Q
theorem sl_all {X : Cx} : SlR X (rSlAll X.K) := sl_list.or sl_tupA
section
variable {M : Fr} {W : WX} {X : Cx} {k : Nat} {a b e : Expr} {es rest : List Expr} {fa fb f : Ev → Res (D × Ev)} {g : Ev → Res (List D × Ev)} {pos : Pos}
theorem po_none' : PO' M W X none oN := ⟨_, po_none, fun σ G H ε s Q hp => hp none G H s (Step.refl ..) rfl⟩
theorem po_some' (ha : PV M W X a fa) : PO' M W X (some a) (oS fa) := by
  obtain ⟨t, et, qt⟩ := ha
  refine ⟨_, po_some et, Tr.bind (f2 := fun d ε => (asI d).bind fun i => .ok (some i, ε)) (t2 := fun v σ H1 (Q : Option Int → Hp → Prop) => ∃ i, v = .int i ∧ Q (some i) H1) qt ?_⟩
  intro d v σ G H ε s rd Q hp
  cases d with
  | int i => exact ⟨i, rp_int.mp rd, hp (some i) G H s (Step.refl ..) rfl⟩
  | _ => exact hp.elim
/-- the three parts, then the slicing -/
theorem tr_parts {α : Type} {te : TE} {tl th : TO} {fl fh : Ev → Res (Option Int × Ev)} (he : Tr M W (Rp M.F) te f) (hl : Tr M W RO tl fl) (hh : Tr M W RO th fh) {r : V → Option Int → Option Int → Hp → VK → Prop}
    {P : St → Hp → Hp → Ev → Res (α × Ev) → VK → Prop} {op : D → Option Int → Option Int → Res α}
    (hst : ∀ σ G H ε Q, P σ G H ε .stuck Q → False) (herr : ∀ σ G H ε c Q, P σ G H ε (.err c) Q → ErrOk M W G H (Own σ ε) c) (hsh : ∀ {σ G H ε G1 H1 ε1 x Q}, SR M G1 H1 σ ε1 → Step G H (Own σ ε) G1 H1 (Own σ ε1) → P σ G H ε x Q → P σ G1 H1 ε1 x Q)
    (ho : ∀ d v lo hi σ G H ε Q, SR M G H σ ε → Rp M.F G d v → P σ G H ε ((op d lo hi).bind fun x => .ok (x, ε)) Q → r v lo hi H Q) (σ : St) (G H : Hp) (ε : Ev) (s : SR M G H σ ε) (Q : VK)
    (hp : P σ G H ε ((f ε).bind fun p => (fl p.2).bind fun q => (fh q.2).bind fun w => (op p.1 q.1 w.1).bind fun x => .ok (x, w.2)) Q) : tSl r te tl th σ H Q := by
  refine he σ G H ε s _ ?_
  cases e1 : f ε with
  | stuck => rw [e1] at hp; exact (hst _ _ _ _ _ hp).elim
  | err c => rw [e1] at hp; exact herr _ _ _ _ _ _ hp
  | ok p =>
    rw [e1] at hp
    intro v G1 H1 s1 st1 rv
    refine hl σ G1 H1 p.2 s1 _ ?_
    have hp1 : P σ G1 H1 p.2 ((fl p.2).bind fun q => (fh q.2).bind fun w => (op p.1 q.1 w.1).bind fun x => .ok (x, w.2)) Q := hsh s1 st1 hp
    cases e2 : fl p.2 with
    | stuck => rw [e2] at hp1; exact (hst _ _ _ _ _ hp1).elim
    | err c => rw [e2] at hp1; exact herr _ _ _ _ _ _ hp1
    | ok q =>
      rw [e2] at hp1
      intro lo G2 H2 s2 st2 rl
      simp only [RO] at rl
      subst rl
      refine hh σ G2 H2 q.2 s2 _ ?_
      have hp2 : P σ G2 H2 q.2 ((fh q.2).bind fun w => (op p.1 q.1 w.1).bind fun x => .ok (x, w.2)) Q := hsh s2 st2 hp1
      cases e3 : fh q.2 with
      | stuck => rw [e3] at hp2; exact (hst _ _ _ _ _ hp2).elim
      | err c => rw [e3] at hp2; exact herr _ _ _ _ _ _ hp2
      | ok w =>
        rw [e3] at hp2
        intro hi G3 H3 s3 st3 rh
        simp only [RO] at rh
        subst rh
        exact ho p.1 v q.1 w.1 σ G3 H3 w.2 Q s3 ((rv.mono st2.gg).mono st3.gg) (hsh s3 st3 hp2)
theorem pv_slice (c : CO M W k X) {lo hi : Option Expr} {fl fh : Ev → Res (Option Int × Ev)} {p2 : Pos} (he : PV M W X e f) (hl : PO' M W X lo fl) (hh : PO' M W X hi fh) : PV M W X (.Subscript e (.Slice lo hi none p2) pos) (eSl f fl fh) := by
  obtain ⟨te, ee, qe⟩ := he
  obtain ⟨tl, el, ql⟩ := hl
  obtain ⟨th, eh, qh⟩ := hh
  refine ⟨_, pe_slice (r := rSlAll M.F.K) (by rw [← c.hK]; exact sl_all) ee el eh, fun σ G H ε s Q hp => ?_⟩
  refine tr_parts (op := dSl) (P := fun σ G H ε x Q => Post M W σ G H ε (Rp M.F) x Q) qe ql qh (fun _ _ _ _ _ h => h) (fun _ _ _ _ _ _ h => h) (fun s1 st h => Post.shift s1 st h) ?_ σ G H ε s Q hp
  intro d v lo hi σ G H ε Q s rd hp
  cases d with
  | lst ds =>
    obtain ⟨a, vs, rfl, ha, l⟩ := rp_lst.mp rd
    refine .inl ⟨a, vs, rfl, SqL.of (s.sub _ _ ha), fun p hn => ?_⟩
    exact post_new hp s hn (fun ps z => by cases z) (rp_lst.mpr ⟨p, _, rfl, upd_same, (l.cut lo hi).mono (up_mono (s.gnone hn))⟩)
  | tup ds =>
    obtain ⟨a, vs, rfl, ha, l⟩ := rp_tup.mp rd
    refine .inr ⟨a, vs, rfl, sqT_mono s.sub ha, fun z => ?_, fun _ p hn => ?_⟩
    · have e1 : cutD ds lo hi = ds := by
        have hl : ds.length = vs.length := l.length
        unfold cutD
        rw [hl, z.1, z.2, List.drop_zero, Nat.sub_zero, ← hl, List.take_length]
      have hp' : Post M W σ G H ε (Rp M.F) (.ok (.tup (cutD ds lo hi), ε)) Q := hp
      rw [e1] at hp'
      exact post_ok hp' s (rp_tup.mpr ⟨a, vs, rfl, ha, l⟩)
    · exact post_new hp s hn (fun ps z => by cases z) (rp_tup.mpr ⟨p, _, rfl, .inl (.inl upd_same), (l.cut lo hi).mono (up_mono (s.gnone hn))⟩)
  | _ => exact hp.elim
theorem pn_slice (c : CO M W k X) {lo hi : Option Expr} {fl fh : Ev → Res (Option Int × Ev)} {p2 : Pos} (he : PV M W X e f) (hl : PO' M W X lo fl) (hh : PO' M W X hi fh) : PN M W X (.Subscript e (.Slice lo hi none p2) pos) (eSlN f fl fh) := by
  obtain ⟨te, ee, qe⟩ := he
  obtain ⟨tl, el, ql⟩ := hl
  obtain ⟨th, eh, qh⟩ := hh
  refine ⟨_, pe_slice (r := rSlAll M.F.K) (by rw [← c.hK]; exact sl_all) ee el eh, fun σ G H ε s Q hp => ?_⟩
  refine tr_parts (op := dSlN) (P := fun σ G H ε x Q => PostN M W σ G H ε x Q) qe ql qh (fun _ _ _ _ _ h => h) (fun _ _ _ _ _ _ h => h) (fun s1 st h => PostN.shift s1 st h) ?_ σ G H ε s Q hp
  intro d v lo hi σ G H ε Q s rd hp
  cases d with
  | lst ds =>
    obtain ⟨a, vs, rfl, ha, l⟩ := rp_lst.mp rd
    exact .inl ⟨a, vs, rfl, SqL.of (s.sub _ _ ha), fun p hn => postN_new hp s hn (l.cut lo hi)⟩
  | _ => exact hp.elim
end

/-! ### backwards: e[lo:hi:-1] -/
def bIxL (lo hi : Option Int) (n : Nat) : List Nat := sliceRange (sliceBounds lo hi (some (-1)) n).1 (sliceBounds lo hi (some (-1)) n).2.1 (-1)
def bLo (lo hi : Option Int) (n : Nat) : Int := (Builtin.Slice.sliceAdjust lo hi (-1) n).1
def bCount (lo hi : Option Int) (n : Nat) : Nat := Builtin.Slice.slicePlaces (bLo lo hi n) (Builtin.Slice.sliceAdjust lo hi (-1) n).2 (-1)
def bIxT (lo hi : Option Int) (n : Nat) : List Nat := (List.range (bCount lo hi n)).map fun (m : Nat) => (bLo lo hi n + (m : Int) * (-1)).toNat
def pick {α : Type} (ix : List Nat) (xs : List α) : List α := ix.filterMap (xs[·]?)
theorem RpL.pick {F : Fx} {G : Hp} {ds : List D} {vs : List V} (l : RpL F G ds vs) : ∀ ix : List Nat, RpL F G (PL.pick ix ds) (PL.pick ix vs)
  | [] => RpL.nil
  | i :: ix => by
    unfold PL.pick
    have ih := l.pick ix
    unfold PL.pick at ih
    rw [List.filterMap_cons, List.filterMap_cons]
    cases e : ds[i]? with
    | none =>
      have e2 : vs[i]? = none := by
        rw [List.getElem?_eq_none_iff, ← l.length]
        exact List.getElem?_eq_none_iff.mp e
      rw [e2]
      exact ih
    | some d =>
      obtain ⟨v, e2, r⟩ := l.get e
      rw [e2]
      exact RpL.cons r ih
theorem vals_pick {xs : List V} {us : List Value} (l : Vals xs us) : ∀ ix : List Nat, Vals (pick ix xs) (pick ix us)
  | [] => .nil
  | i :: ix => by
    unfold pick
    have ih := vals_pick l ix
    unfold pick at ih
    rw [List.filterMap_cons, List.filterMap_cons]
    cases e : xs[i]? with
    | none => rw [l.none_of e]; exact ih
    | some d =>
      obtain ⟨v, e2, r⟩ := l.get e
      rw [e2]
      exact .cons r ih
theorem pick_len {α : Type} (ix : List Nat) (xs : List α) : (pick ix xs).length ≤ ix.length := List.length_filterMap_le _ _
def dBack : D → Option Int → Option Int → Res D
  | .lst ds, lo, hi => if (bIxL lo hi ds.length).length ≤ 1000000 ∧ ds.length ≤ 1000000 then .ok (.lst (pick (bIxL lo hi ds.length) ds)) else .stuck
  | .tup ds, lo, hi => if bCount lo hi ds.length ≤ 1000000 then .ok (.tup (pick (bIxT lo hi ds.length) ds)) else .stuck
  | _, _, _ => .stuck
@[reducible] def eBack (f : Ev → Res (D × Ev)) (lo hi : Ev → Res (Option Int × Ev)) : Ev → Res (D × Ev) := fun ε =>
  (f ε).bind fun p => (lo p.2).bind fun q => (hi q.2).bind fun r => (dBack p.1 q.1 r.1).bind fun d => .ok (d, r.2)
def rBack (K : PySem.W.Frag) : V → Option Int → Option Int → Hp → VK → Prop := fun x lo hi H Q =>
  (∃ a xs, x = .ref a ∧ SqL K H a xs ∧ (bIxL lo hi xs.length).length ≤ 1000000 ∧ ∀ p, H p = none → Q (.ref p) (upd H p (.lst (pick (bIxL lo hi xs.length) xs)))) ∨
  ∃ a xs, x = .ref a ∧ SqT K H a xs ∧ bCount lo hi xs.length ≤ 1000000 ∧ ∀ p, H p = none → Q (.ref p) (upd H p (.tup (pick (bIxT lo hi xs.length) xs)))
theorem pe_back {X : Cx} {e : Expr} {te : TE} {lo hi : Option Expr} {tl th : TO} {k : Nat} {p1 p2 p3 pos : Pos} (he : PE X e te) (hl : PO X lo tl) (hh : PO X hi th) :
    PE X (.Subscript e (.Slice lo hi (some (.UnaryOp .USub (.Constant (.int 1) k p1) p2)) p3) pos) (tSl (rBack X.K) te tl th) := by
  refine ⟨fun pins s σ H Q I h => ?_⟩
  refine Subscript_ (thn (he.run pins s σ H _ I h) fun v s1 ⟨x, H1, I1, r1, q1⟩ => ?_)
  have hst : PO X (some (.UnaryOp .USub (.Constant (.int 1) k p1) p2)) (tPart (tUn (rU fun i => .int (-i)) (tC (.int 1)))) := po_some (pe_un un_neg pe_int)
  refine wpAny_Slice (thn (hl.run pins s1 σ H1 _ I1 q1) fun vl s2 ⟨l, H2, I2, pl, q2⟩ => ?_)
  refine thn (hh.run pins s2 σ H2 _ I2 q2) fun vu s3 ⟨u, H3, I3, pu, q3⟩ => ?_
  refine thn (hst.run pins s3 σ H3 (fun o H4 => o = some (-1) ∧ H4 = H3) I3 ⟨1, rfl, -1, rfl, rfl, rfl⟩) fun vs s4 ⟨o, H4, I4, ps, eo, e4⟩ => ?_
  subst eo e4
  have I5 : Inv X pins σ H4 { s4 with heap := s4.heap.push { cls := .type "slice", data := .fields #[vl, vu, vs] } } := I4.kept (t' := s4.toks) fun b ob q => Heap.get?_push_of_some _ q
  rcases q3 with ⟨a, xs, rfl, hx, hz0, q⟩ | ⟨a, xs, rfl, hx, hz0, q⟩
  · cases r1
    obtain ⟨its, r, ht, hz⟩ := I5.list hx
    have hlen := r.length
    refine tail_any (ops := [.ref a, .ref s4.heap.objs.size]) ht.isList.typeIs (PySem.slot_list_getitem.lookup) ?_ (by with_unfolding_all rfl)
    refine wpAny_getItem_list_slice ht.isList (Heap.IsSliceOf.new _ vl vu vs) pl pu ps (by decide) ?_ (by rw [List.size_toArray]; omega)
    have e1 : slicePick its.toArray l u (some (-1)) = (pick (bIxL l u xs.length) its).toArray := by
      unfold slicePick pick bIxL
      rw [List.size_toArray, ← hlen]
      congr 2
      funext i
      simp
    rw [e1]
    refine ⟨.ref _, _, I5.laid (t' := s4.toks) (o := .lst (pick (bIxL l u xs.length) xs)) (fun b ob q => Heap.get?_push_of_some _ q) (Nat.le_refl _) ?_, rfl, q _ (I5.hok.fresh (Nat.le_refl _))⟩
    exact ⟨line_big (Nat.le_trans (pick_len _ _) hz0), _, 0, vals_pick r _, Heap.get?_push_size _ rfl⟩
  · cases r1
    obtain ⟨its, r, ht, hz⟩ := I5.tuple hx
    have hlen := r.length
    refine tail_any (ops := [.ref a, .ref s4.heap.objs.size]) ht.typeIs (PyProof.Rows.slot_tuple_getitem.lookup) ?_ (by with_unfolding_all rfl)
    have hsz : its.toArray.size = xs.length := by rw [List.size_toArray, hlen]
    refine tup_slice (a := bLo l u xs.length) (k := bCount l u xs.length) ht (Heap.IsSliceOf.new _ vl vu vs) pl pu ps (by decide) (by rw [hsz]; rfl) (by rw [hsz]; rfl) (fun z => ?_) (fun _ => ?_) (line_big hz0)
    · simp [whole] at z
    · have e1 : ((List.range (bCount l u xs.length)).filterMap fun (m : Nat) => its.toArray[(bLo l u xs.length + (m : Int) * (some (-1 : Int)).getD 1).toNat]?).toArray = (pick (bIxT l u xs.length) its).toArray := by
        unfold pick bIxT
        rw [List.filterMap_map]
        congr 2
        funext i
        simp
      rw [e1]
      refine ⟨.ref _, _, I5.laid (t' := s4.toks) (o := .tup (pick (bIxT l u xs.length) xs)) (fun b ob q => Heap.get?_push_of_some _ q) (Nat.le_refl _) ?_, rfl, q _ (I5.hok.fresh (Nat.le_refl _))⟩
      refine ⟨line_big (Nat.le_trans (pick_len _ _) ?_), _, vals_pick r _, IsTup.new _ _⟩
      unfold bIxT
      rw [List.length_map, List.length_range]
      exact hz0
section
variable {M : Fr} {W : WX} {X : Cx} {k : Nat} {a b e : Expr} {es rest : List Expr} {fa fb f : Ev → Res (D × Ev)} {g : Ev → Res (List D × Ev)} {pos : Pos}
theorem pv_back (c : CO M W k X) {lo hi : Option Expr} {fl fh : Ev → Res (Option Int × Ev)} {j : Nat} {p1 p2 p3 : Pos} (he : PV M W X e f) (hl : PO' M W X lo fl) (hh : PO' M W X hi fh) :
    PV M W X (.Subscript e (.Slice lo hi (some (.UnaryOp .USub (.Constant (.int 1) j p1) p2)) p3) pos) (eBack f fl fh) := by
  obtain ⟨te, ee, qe⟩ := he
  obtain ⟨tl, el, ql⟩ := hl
  obtain ⟨th, eh, qh⟩ := hh
  refine ⟨_, pe_back ee el eh, fun σ G H ε s Q hp => ?_⟩
  refine tr_parts (op := dBack) (P := fun σ G H ε x Q => Post M W σ G H ε (Rp M.F) x Q) qe ql qh (fun _ _ _ _ _ h => h) (fun _ _ _ _ _ _ h => h) (fun s1 st h => Post.shift s1 st h) ?_ σ G H ε s Q hp
  intro d v lo hi σ G H ε Q s rd hp
  cases d with
  | lst ds =>
    obtain ⟨a, vs, rfl, ha, l⟩ := rp_lst.mp rd
    simp only [dBack] at hp
    split at hp
    · rename_i hz
      rw [l.length] at hp hz
      refine .inl ⟨a, vs, rfl, SqL.of (s.sub _ _ ha), hz.1, fun p hn => ?_⟩
      exact post_new hp s hn (fun ps z => by cases z) (rp_lst.mpr ⟨p, _, rfl, upd_same, (l.pick _).mono (up_mono (s.gnone hn))⟩)
    · exact hp.elim
  | tup ds =>
    obtain ⟨a, vs, rfl, ha, l⟩ := rp_tup.mp rd
    simp only [dBack] at hp
    split at hp
    · rename_i hz
      rw [l.length] at hp hz
      refine .inr ⟨a, vs, rfl, by rw [c.hK]; exact sqT_mono s.sub ha, hz, fun p hn => ?_⟩
      exact post_new hp s hn (fun ps z => by cases z) (rp_tup.mpr ⟨p, _, rfl, .inl (.inl upd_same), (l.pick _).mono (up_mono (s.gnone hn))⟩)
    · exact hp.elim
  | _ => exact hp.elim
end
end PL
/-! PL, part f: what is walked, targets, comprehensions. -/
namespace PL
open PySem PySem.Spec PyProof.Rows L2

/-! ### what is walked -/
structure HG (F : Fx) (G H : Hp) : Prop where
  sub : ∀ q o, G q = some o → H q = some o
  ntb : ∀ q ps, G q ≠ some (.tbl ps)
  tabs : LamX.Tabs F.T H
theorem SR.hg {M : Fr} {G H : Hp} {σ : St} {ε : Ev} (s : SR M G H σ ε) : HG M.F G H := ⟨s.sub, s.ntb, s.tabs⟩
theorem Grow.trans {G H G1 H1 G2 H2 : Hp} (a : Grow G H G1 H1) (b : Grow G1 H1 G2 H2) : Grow G H G2 H2 :=
  ⟨fun q o h => b.gg q o (a.gg q o h), fun q o h n => b.hh q o (a.hh q o h n) n, fun q h => a.hs q (b.hs q h), fun q o h => (b.gn q o h).elim (a.gn q o) fun z => .inr (a.hs q z)⟩
theorem HG.new {F : Fx} {G H : Hp} (s : HG F G H) {p : Addr} {o : HO} (hp : H p = none) (ho : ∀ ps, o ≠ .tbl ps) : Grow G H (upd G p o) (upd H p o) ∧ HG F (upd G p o) (upd H p o) := by
  have gp : G p = none := by
    cases q : G p with
    | none => rfl
    | some u => rw [s.sub p u q] at hp; cases hp
  refine ⟨⟨fun q u h => by rw [upd_ne (ne_of_none h gp)]; exact h, fun q u h _ => by rw [upd_ne (ne_of_none h hp)]; exact h, fun q h => ?_, fun q u h => ?_⟩, ⟨fun q u h => ?_, fun q ps h => ?_, s.tabs.ext fun q u h => by rw [upd_ne (ne_of_none h hp)]; exact h⟩⟩
  · unfold upd at h
    split at h
    · cases h
    · exact h
  · unfold upd at h
    split at h
    · rename_i e; subst e; exact .inr hp
    · exact .inl h
  · unfold upd at h ⊢
    split
    · rename_i e; rw [if_pos e] at h; exact h
    · rename_i e; rw [if_neg e] at h; exact s.sub q u h
  · unfold upd at h
    split at h
    · exact ho ps (Option.some.inj h)
    · exact s.ntb q ps h

def ItOk (F : Fx) (J : It) (G1 : Hp) (ds : List D) : Prop := ∀ (i : Nat) (G H : Hp), HG F G H → (∀ q o, G1 q = some o → G q = some o) →
  (∀ d, ds[i]? = some d → J.go i H ∧ ∀ x H', J.yld i H x H' → ∃ G', Grow G H G' H' ∧ HG F G' H' ∧ Rp F G' d x) ∧ (ds.length ≤ i → J.stop i H)
def PIt (M : Fr) (W : WX) (X : Cx) (tg it : Expr) (f : Ev → Res (List D × Ev)) : Prop := ∃ wi, PI X tg it wi ∧ Tr M W (fun G ds J => ItOk M.F J G ds) wi f

theorem pi_or {X : Cx} {tg it : Expr} {w1 w2 : TI} (h1 : PI X tg it w1) (h2 : PI X tg it w2) : PI X tg it (fun σ H R => w1 σ H R ∨ w2 σ H R) :=
  ⟨fun pins s σ H R I h => h.elim (h1.run pins s σ H R I) (h2.run pins s σ H R I)⟩
theorem itOk_list {F : Fx} {K : PySem.W.Frag} {G1 : Hp} {a : Addr} {vs : List V} {ds : List D} (hg : ∀ G H, HG F G H → (∀ q o, G1 q = some o → G q = some o) → ∀ ys, SqL K H a ys → ys = vs) (ha : G1 a = some (.lst vs)) (l : RpL F G1 ds vs) : ItOk F (Itl K a) G1 ds := by
  intro i G H s g1
  have hs : SqL K H a vs := SqL.of (s.sub _ _ (g1 _ _ ha))
  refine ⟨fun d e => ?_, fun e => ⟨vs, hs, by rw [← l.length]; exact e⟩⟩
  obtain ⟨v, e1, r⟩ := l.get e
  refine ⟨⟨vs, v, hs, e1⟩, fun x H' y => ?_⟩
  obtain ⟨rfl, y⟩ := y
  have ex := y vs hs
  rw [e1] at ex
  cases ex
  exact ⟨G, Grow.refl _ _, s, r.mono g1⟩
@[reducible, simp] def dSeq : D → Res (List D)
  | .lst ds => .ok ds
  | .tup ds => .ok ds
  | _ => .stuck
@[reducible, simp] def iSeq (f : Ev → Res (D × Ev)) : Ev → Res (List D × Ev) := fun ε => (f ε).bind fun p => (dSeq p.1).bind fun ds => .ok (ds, p.2)
section
variable {M : Fr} {W : WX} {X : Cx} {k : Nat} {tg a b e : Expr} {es rest : List Expr} {fa fb f : Ev → Res (D × Ev)} {g : Ev → Res (List D × Ev)} {pos : Pos}
theorem pit_seq (c : CO M W k X) (ha : PV M W X e f) : PIt M W X tg e (iSeq f) := by
  obtain ⟨t, et, q⟩ := ha
  refine ⟨_, pi_or (pi_list et) (pi_tup et), fun σ G H ε s Q hp => ?_⟩
  cases e1 : f ε with
  | stuck => simp only [iSeq, e1] at hp; exact hp.elim
  | err cc =>
    refine .inl (q σ G H ε s _ ?_)
    simp only [iSeq, e1] at hp
    rw [e1]; exact hp
  | ok p =>
    obtain ⟨d, ε1⟩ := p
    cases d with
    | lst ds =>
      refine .inl (q σ G H ε s _ ?_)
      simp only [iSeq, e1, Res.bind_ok, dSeq] at hp
      rw [e1]
      intro v G1 H1 s1 st1 r
      obtain ⟨a, vs, rfl, ha, l⟩ := rp_lst.mp r
      refine ⟨a, rfl, ⟨vs, SqL.of (s1.sub _ _ ha)⟩, hp _ G1 H1 s1 st1 ?_⟩
      intro i G2 H2 s2 g2
      have hs : SqL X.K H2 a vs := SqL.of (s2.sub _ _ (g2 _ _ ha))
      refine ⟨fun d e => ?_, fun e => ⟨vs, hs, by rw [← l.length]; exact e⟩⟩
      obtain ⟨v, e1, r⟩ := l.get e
      refine ⟨⟨vs, v, hs, e1⟩, fun x H' y => ?_⟩
      obtain ⟨rfl, y⟩ := y
      have ex := y vs hs
      rw [e1] at ex
      cases ex
      exact ⟨G2, Grow.refl _ _, s2, r.mono g2⟩
    | tup ds =>
      refine .inr (q σ G H ε s _ ?_)
      simp only [iSeq, e1, Res.bind_ok, dSeq] at hp
      rw [e1]
      intro v G1 H1 s1 st1 r
      obtain ⟨a, vs, rfl, ha, l⟩ := rp_tup.mp r
      rw [← c.hK] at ha
      refine ⟨a, rfl, ⟨vs, sqT_mono s1.sub ha⟩, hp _ G1 H1 s1 st1 ?_⟩
      intro i G2 H2 s2 g2
      have hs : SqT X.K H2 a vs := sqT_mono s2.sub (sqT_mono g2 ha)
      refine ⟨fun d e => ?_, fun e => ⟨vs, hs, by rw [← l.length]; exact e⟩⟩
      obtain ⟨v, e1, r⟩ := l.get e
      refine ⟨⟨vs, v, hs, e1⟩, fun x H' y => ?_⟩
      obtain ⟨rfl, y⟩ := y
      have ex := y vs hs
      rw [e1] at ex
      cases ex
      exact ⟨G2, Grow.refl _ _, s2, r.mono g2⟩
    | _ => simp only [iSeq, e1, Res.bind_ok, dSeq] at hp; exact hp.elim

def rgD (lo : Int) (n : Nat) : List D := (List.range n).map fun (i : Nat) => D.int (lo + i)
def fRange : List D → Res (List D)
  | [.int j] => if Nat.ble j.natAbs 1000000000 = true then .ok (rgD 0 j.toNat) else .stuck
  | [.int i, .int j] => if (Nat.ble i.natAbs 1000000000 && Nat.ble j.natAbs 1000000000) = true then .ok (rgD i (j - i).toNat) else .stuck
  | _ => .stuck
theorem itOk_range {F : Fx} {G : Hp} (lo : Int) (n : Nat) : ItOk F (Itr lo n) G (rgD lo n) := by
  intro i G H s g1
  unfold rgD
  refine ⟨fun d e => ?_, fun e => by rw [List.length_map, List.length_range] at e; exact e⟩
  rw [List.getElem?_map] at e
  have hi : i < n := by
    cases q : (List.range n)[i]? with
    | none => rw [q] at e; cases e
    | some j =>
      have := (List.getElem?_eq_some_iff.mp q).1
      rwa [List.length_range] at this
  rw [List.getElem?_range hi] at e
  cases e
  refine ⟨hi, fun x H' y => ?_⟩
  obtain ⟨rfl, rfl⟩ := y
  exact ⟨G, Grow.refl _ _, s, rp_int.mpr rfl⟩
@[reducible, simp] def iCall (g : List D → Res (List D)) (fs : Ev → Res (List D × Ev)) : Ev → Res (List D × Ev) := fun ε => (fs ε).bind fun p => (g p.1).bind fun ds => .ok (ds, p.2)
theorem pit_range1 {p : Pos} {fs} (hm : X.mg "range" = none) (ha : PA' M W X [e] fs) (hg : Gl X "range" := by rfl) (hs : starEach [e] X.env = [(false, eval e X.env)] := by rfl) : PIt M W X tg (.Call (.Name "range" p) [e] [] pos) (iCall fRange fs) := by
  obtain ⟨⟨t, et, qt⟩, hl⟩ := ha
  refine ⟨_, pi_range1 hg hm et hs, fun σ G H ε s Q hp => ?_⟩
  refine qt σ G H ε s _ ?_
  simp only [iCall] at hp
  cases e1 : fs ε with
  | stuck => rw [e1] at hp; exact hp
  | err c => rw [e1] at hp; exact hp
  | ok p =>
    rw [e1] at hp
    intro vs G1 H1 s1 st1 rs
    simp only [Res.bind_ok] at hp
    unfold fRange at hp
    split at hp
    · rename_i j ej
      rw [ej] at rs
      obtain ⟨v, rfl, r⟩ := rpL1 rs
      rw [rp_int] at r; subst r
      split at hp
      · rename_i hj
        replace hj := Nat.ble_eq.mp hj
        refine ⟨j, rfl, by omega, by omega, ?_⟩
        exact hp _ G1 H1 s1 st1 (itOk_range 0 _)
      · exact hp.elim
    · rename_i i j ej
      rw [ej] at rs
      obtain ⟨v, w, rfl, r, r2⟩ := rpL2 rs
      have := hl _ _ e1
      rw [ej] at this
      simp at this
    · exact hp.elim
theorem pit_range2 {e2 : Expr} {p : Pos} {fs} (hm : X.mg "range" = none) (ha : PA' M W X [e, e2] fs) (hg : Gl X "range" := by rfl) (hs : starEach [e, e2] X.env = [(false, eval e X.env), (false, eval e2 X.env)] := by rfl) (hs2 : starEach [e2] X.env = [(false, eval e2 X.env)] := by rfl) : PIt M W X tg (.Call (.Name "range" p) [e, e2] [] pos) (iCall fRange fs) := by
  obtain ⟨⟨t, et, qt⟩, hl⟩ := ha
  refine ⟨_, pi_range2 hg hm et hs hs2, fun σ G H ε s Q hp => ?_⟩
  refine qt σ G H ε s _ ?_
  simp only [iCall] at hp
  cases e1 : fs ε with
  | stuck => rw [e1] at hp; exact hp
  | err c => rw [e1] at hp; exact hp
  | ok p =>
    rw [e1] at hp
    intro vs G1 H1 s1 st1 rs
    simp only [Res.bind_ok] at hp
    unfold fRange at hp
    split at hp
    · rename_i j ej
      have := hl _ _ e1
      rw [ej] at this
      simp at this
    · rename_i i j ej
      rw [ej] at rs
      obtain ⟨v, w, rfl, r, r2⟩ := rpL2 rs
      rw [rp_int] at r r2; subst r r2
      split at hp
      · rename_i hj
        simp only [Bool.and_eq_true, Nat.ble_eq] at hj
        refine ⟨i, j, rfl, ⟨by omega, by omega, by omega, by omega⟩, ?_⟩
        exact hp _ G1 H1 s1 st1 (itOk_range i _)
      · exact hp.elim
    · exact hp.elim

/-! enumerate, zip -/
def enumD : Nat → List D → List D
  | _, [] => []
  | i, d :: ds => .tup [.int i, d] :: enumD (i + 1) ds
theorem enumD_get : ∀ (ds : List D) (n i : Nat) (x : D), (enumD n ds)[i]? = some x → ∃ d, ds[i]? = some d ∧ x = .tup [.int ((n + i : Nat) : Int), d]
  | [], n, i, x, e => by simp [enumD] at e
  | d :: ds, n, 0, x, e => by simp [enumD] at e; exact ⟨d, rfl, e.symm⟩
  | d :: ds, n, i + 1, x, e => by
    simp only [enumD, List.getElem?_cons_succ] at e
    obtain ⟨d', e1, e2⟩ := enumD_get ds (n + 1) i x e
    exact ⟨d', by simpa using e1, by rw [e2, show n + 1 + i = n + (i + 1) by omega]⟩
theorem enumD_len : ∀ (ds : List D) (n : Nat), (enumD n ds).length = ds.length
  | [], _ => rfl
  | d :: ds, n => by simp [enumD, enumD_len ds (n + 1)]
def zipD : List D → List D → List D
  | a :: as, b :: bs => .tup [a, b] :: zipD as bs
  | _, _ => []
theorem zipD_get : ∀ (as bs : List D) (i : Nat) (x : D), (zipD as bs)[i]? = some x → ∃ a b, as[i]? = some a ∧ bs[i]? = some b ∧ x = .tup [a, b]
  | [], _, i, x, e => by simp [zipD] at e
  | _ :: _, [], i, x, e => by simp [zipD] at e
  | a :: as, b :: bs, 0, x, e => by simp [zipD] at e; exact ⟨a, b, rfl, rfl, e.symm⟩
  | a :: as, b :: bs, i + 1, x, e => by
    simp only [zipD, List.getElem?_cons_succ] at e
    obtain ⟨a', b', e1, e2, e3⟩ := zipD_get as bs i x e
    exact ⟨a', b', by simpa using e1, by simpa using e2, e3⟩
theorem zipD_len : ∀ (as bs : List D), (zipD as bs).length = min as.length bs.length
  | [], _ => by simp [zipD]
  | _ :: _, [] => by simp [zipD]
  | a :: as, b :: bs => by simp [zipD, zipD_len as bs, Nat.succ_min_succ]
/-- a new pair of known things -/
theorem new_pair {F : Fx} {G H : Hp} (s : HG F G H) {T : Addr} {d e : D} {x y : V} (hT : H T = none) (r1 : Rp F G d x) (r2 : Rp F G e y) :
    ∃ G', Grow G H G' (upd H T (.tup [x, y])) ∧ HG F G' (upd H T (.tup [x, y])) ∧ Rp F G' (.tup [d, e]) (.ref T) := by
  obtain ⟨g, h⟩ := s.new (o := .tup [x, y]) hT (fun ps z => by cases z)
  exact ⟨_, g, h, rp_tup.mpr ⟨T, _, rfl, .inl (.inl upd_same), RpL.cons (r1.mono g.gg) (RpL.cons (r2.mono g.gg) RpL.nil)⟩⟩
def fEnumL : List D → Res (List D)
  | [.lst ds] => .ok (enumD 0 ds)
  | _ => .stuck
theorem pit_enumL (c : CO M W k X) {p tpos : Pos} {elts : List Expr} {kk : Nat} {fs} (hm : X.mg "enumerate" = none) (ha : PA' M W X [e] fs) (hg : Gl X "enumerate" := by rfl) (hs : starEach [e] X.env = [(false, eval e X.env)] := by rfl) :
    PIt M W X (.Tuple elts kk tpos) (.Call (.Name "enumerate" p) [e] [] pos) (iCall fEnumL fs) := by
  obtain ⟨⟨t, et, qt⟩, hl⟩ := ha
  refine ⟨_, pi_enum hg hm et hs, fun σ G H ε s Q hp => ?_⟩
  refine qt σ G H ε s _ ?_
  simp only [iCall] at hp
  cases e1 : fs ε with
  | stuck => rw [e1] at hp; exact hp
  | err c => rw [e1] at hp; exact hp
  | ok p =>
    rw [e1] at hp
    intro vs G1 H1 s1 st1 rs
    simp only [Res.bind_ok] at hp
    unfold fEnumL at hp
    split at hp
    · rename_i ds ej
      rw [ej] at rs
      obtain ⟨v, rfl, r⟩ := rpL1 rs
      obtain ⟨a, ws, rfl, ha, l⟩ := rp_lst.mp r
      refine ⟨a, ws, rfl, SqL.of (s1.sub _ _ ha), hp _ G1 H1 s1 st1 ?_⟩
      intro i G2 H2 s2 g2
      have hs : SqL X.K H2 a ws := SqL.of (s2.sub _ _ (g2 _ _ ha))
      refine ⟨fun d e => ?_, fun e => ⟨ws, hs, by rw [← l.length]; rw [enumD_len] at e; exact e⟩⟩
      obtain ⟨d0, e2, rfl⟩ := enumD_get ds 0 i d e
      obtain ⟨v, e3, r⟩ := l.get e2
      refine ⟨⟨ws, v, hs, e3⟩, fun x H' y => ?_⟩
      obtain ⟨T, x0, rfl, hT, rfl, y⟩ := y
      have ex := y ws hs
      rw [e3] at ex
      cases ex
      exact new_pair s2 hT (rp_int.mpr (by simp)) (r.mono g2)
    · exact hp.elim
@[simp] def fZip : List D → Res (List D)
  | [.lst as, .lst bs] => .ok (zipD as bs)
  | [.tup as, .tup bs] => .ok (zipD as bs)
  | _ => .stuck
theorem pit_zip (c : CO M W k X) {e2 : Expr} {p tpos : Pos} {elts : List Expr} {kk : Nat} {fs} (hm : X.mg "zip" = none) (ha : PA' M W X [e, e2] fs) (hg : Gl X "zip" := by rfl)
    (hs : starEach [e, e2] X.env = (false, eval e X.env) :: starEach [e2] X.env := by rfl) (hpl : (backTo pos (starEach [e2] X.env)).any (·.1) = false := by rfl) :
    PIt M W X (.Tuple elts kk tpos) (.Call (.Name "zip" p) [e, e2] [] pos) (iCall fZip fs) := by
  obtain ⟨⟨t, et, qt⟩, hl⟩ := ha
  refine ⟨_, RZ.pi_zipA hg hm et hs hpl, fun σ G H ε s Q hp => ?_⟩
  refine qt σ G H ε s _ ?_
  simp only [iCall] at hp
  cases e1 : fs ε with
  | stuck => rw [e1] at hp; exact hp
  | err c => rw [e1] at hp; exact hp
  | ok p =>
    rw [e1] at hp
    intro vs G1 H1 s1 st1 rs
    simp only [Res.bind_ok] at hp
    unfold fZip at hp
    split at hp
    · rename_i as bs ej
      rw [ej] at rs
      obtain ⟨v, w, rfl, r, r2⟩ := rpL2 rs
      obtain ⟨a, xs, rfl, ha, l⟩ := rp_lst.mp r
      obtain ⟨b, ys, rfl, hb, l2⟩ := rp_lst.mp r2
      refine ⟨a, b, xs, ys, rfl, .inl ⟨SqL.of (s1.sub _ _ ha), SqL.of (s1.sub _ _ hb), hp _ G1 H1 s1 st1 ?_⟩⟩
      intro i G2 H2 s2 g2
      have hx : SqL X.K H2 a xs := SqL.of (s2.sub _ _ (g2 _ _ ha))
      have hy : SqL X.K H2 b ys := SqL.of (s2.sub _ _ (g2 _ _ hb))
      refine ⟨fun d e => ?_, fun e => ⟨xs, ys, hx, hy, by rw [← l.length, ← l2.length]; rw [zipD_len] at e; omega⟩⟩
      obtain ⟨d1, d2, e2, e3, rfl⟩ := zipD_get as bs i d e
      obtain ⟨v1, e4, r4⟩ := l.get e2
      obtain ⟨v2, e5, r5⟩ := l2.get e3
      refine ⟨⟨xs, ys, v1, v2, hx, hy, e4, e5⟩, fun x H' y => ?_⟩
      obtain ⟨T, x1, x2, rfl, hT, rfl, y1, y2⟩ := y
      have ex1 := y1 xs hx
      have ex2 := y2 ys hy
      rw [e4] at ex1
      rw [e5] at ex2
      cases ex1
      cases ex2
      exact new_pair s2 hT (r4.mono g2) (r5.mono g2)
    · rename_i as bs ej
      rw [ej] at rs
      obtain ⟨v, w, rfl, r, r2⟩ := rpL2 rs
      obtain ⟨a, xs, rfl, ha, l⟩ := rp_tup.mp r
      obtain ⟨b, ys, rfl, hb, l2⟩ := rp_tup.mp r2
      rw [← c.hK] at ha hb
      refine ⟨a, b, xs, ys, rfl, .inr ⟨sqT_mono s1.sub ha, sqT_mono s1.sub hb, hp _ G1 H1 s1 st1 ?_⟩⟩
      intro i G2 H2 s2 g2
      have hx : SqT X.K H2 a xs := sqT_mono s2.sub (sqT_mono g2 ha)
      have hy : SqT X.K H2 b ys := sqT_mono s2.sub (sqT_mono g2 hb)
      refine ⟨fun d e => ?_, fun e => ⟨xs, ys, hx, hy, by rw [← l.length, ← l2.length]; rw [zipD_len] at e; omega⟩⟩
      obtain ⟨d1, d2, e2, e3, rfl⟩ := zipD_get as bs i d e
      obtain ⟨v1, e4, r4⟩ := l.get e2
      obtain ⟨v2, e5, r5⟩ := l2.get e3
      refine ⟨⟨xs, ys, v1, v2, hx, hy, e4, e5⟩, fun x H' y => ?_⟩
      obtain ⟨T, x1, x2, rfl, hT, rfl, y1, y2⟩ := y
      have ex1 := y1 xs hx
      have ex2 := y2 ys hy
      rw [e4] at ex1
      rw [e5] at ex2
      cases ex1
      cases ex2
      exact new_pair s2 hT (r4.mono g2) (r5.mono g2)
    · exact hp.elim
end

/-! ### targets -/
/-- a target: the slots it stores to, and what it makes of them -/
def TgOk (M : Fr) (g : TG) (f : D → Ev → Res Ev) (is : List Nat) : Prop :=
  ∀ (d : D) (v : V) (σ : St) (G H : Hp) (ε ε' : Ev), SR M G H σ ε → Rp M.F G d v → f d ε = .ok ε' → ∀ Q : St → Hp → Prop,
    (∀ σ', SR M G H σ' ε' → (∀ q, Own σ' ε' q → Own σ ε q) → (∀ i, i ∉ is → σ'[i]? = σ[i]? ∧ ε'[i]? = ε[i]?) → σ'.length = σ.length → Q σ' H) → g v σ H Q
def TgsOk (M : Fr) (g : TGs) (f : List D → Ev → Res Ev) (is : List Nat) : Prop :=
  ∀ (ds : List D) (vs : List V) (σ : St) (G H : Hp) (ε ε' : Ev), SR M G H σ ε → RpL M.F G ds vs → f ds ε = .ok ε' → ∀ Q : St → Hp → Prop,
    (∀ σ', SR M G H σ' ε' → (∀ q, Own σ' ε' q → Own σ ε q) → (∀ i, i ∉ is → σ'[i]? = σ[i]? ∧ ε'[i]? = ε[i]?) → σ'.length = σ.length → Q σ' H) → g vs σ H Q
def PTg (M : Fr) (X : Cx) (tg : Expr) (f : D → Ev → Res Ev) (is : List Nat) : Prop := ∃ g, PG X tg g ∧ TgOk M g f is
def PTgs (M : Fr) (X : Cx) (tgs : List Expr) (f : List D → Ev → Res Ev) (is : List Nat) : Prop := ∃ g, PGs X tgs g ∧ TgsOk M g f is ∧ ∀ ds ε ε', f ds ε = .ok ε' → ds.length = tgs.length
@[reducible, simp] def tName (i : Nat) (d : D) (ε : Ev) : Res Ev := if i < ε.length then .ok (ε.set i (.pu d)) else .stuck
@[reducible, simp] def tsNil (ds : List D) (ε : Ev) : Res Ev := match ds with
  | [] => .ok ε
  | _ => .stuck
@[reducible, simp] def tsCons (f : D → Ev → Res Ev) (g : List D → Ev → Res Ev) (ds : List D) (ε : Ev) : Res Ev := match ds with
  | d :: r => (f d ε).bind fun ε1 => g r ε1
  | _ => .stuck
@[reducible, simp] def tTupD (g : List D → Ev → Res Ev) (d : D) (ε : Ev) : Res Ev := match d with
  | .tup ds => g ds ε
  | _ => .stuck

theorem SR.setPu {M : Fr} {G H : Hp} {σ : St} {ε : Ev} (s : SR M G H σ ε) {i : Nat} {d : D} {v : V} (hi : i < ε.length) (r : Rp M.F G d v) (hc : M.cp = none ∨ i ≠ 0) :
    SR M G H (σ.set i (some v)) (ε.set i (.pu d)) ∧ ∀ q, Own (σ.set i (some v)) (ε.set i (.pu d)) q → Own σ ε q := by
  have hσ : i < σ.length := by rw [← s.len]; exact hi
  have own : ∀ (j : Nat) (ds : List D), (ε.set i (.pu d))[j]? = some (.ow ds) → j ≠ i ∧ ε[j]? = some (.ow ds) := fun j ds e => by
    by_cases hj : j = i
    · subst hj
      rw [List.getElem?_set_self hi] at e
      cases e
    · rw [List.getElem?_set_ne (Ne.symm hj)] at e
      exact ⟨hj, e⟩
  have at_ : ∀ (j : Nat), j ≠ i → (σ.set i (some v))[j]? = σ[j]? := fun j hj => List.getElem?_set_ne (Ne.symm hj)
  refine ⟨⟨s.sub, s.ntb, s.tabs, by rw [List.length_set, List.length_set]; exact s.len, fun j x o e1 e2 => ?_, fun j l ds es q e1 e2 e3 e4 => ?_, fun p hp => ?_⟩, fun q ⟨j, ds, e1, e2⟩ => ?_⟩
  · by_cases hj : j = i
    · subst hj
      rw [List.getElem?_set_self hi] at e1
      rw [List.getElem?_set_self hσ] at e2
      cases e1
      cases e2
      exact ⟨v, rfl, r⟩
    · rw [List.getElem?_set_ne (Ne.symm hj)] at e1 e2
      exact s.slots j x o e1 e2
  · obtain ⟨h1, e1⟩ := own j ds e1
    obtain ⟨h2, e2⟩ := own l es e2
    rw [at_ j h1] at e3
    rw [at_ l h2] at e4
    exact s.inj j l ds es q e1 e2 e3 e4
  · obtain ⟨a, ds, b⟩ := s.cup p hp
    have h0 : (0 : Nat) ≠ i := fun e => by
      rcases hc with z | z
      · rw [z] at hp; cases hp
      · exact z e.symm
    rw [at_ 0 h0, List.getElem?_set_ne (Ne.symm h0)]
    exact ⟨a, ds, b⟩
  · obtain ⟨h1, e1⟩ := own j ds e1
    rw [at_ j h1] at e2
    exact ⟨j, ds, e1, e2⟩
section
variable {M : Fr} {W : WX} {X : Cx} {k : Nat} {tg a b e : Expr} {es rest : List Expr} {fa fb f : Ev → Res (D × Ev)} {g : Ev → Res (List D × Ev)} {pos : Pos}
theorem ptg_name {i : Nat} {x : Str} (hN : X.N.Nodup) (hc : M.cp = none ∨ i ≠ 0) (hi : X.N[i]? = some x := by rfl) (hx : Loc X.env.scope x := by first | exact Or.inl rfl | exact Or.inr rfl) (hf : X.fn x = true ∨ X.env.scope.names.lookup x = some .local := by first | exact .inl rfl | exact .inr rfl | assumption) : PTg M X (.Name x pos) (tName i) [i] := by
  refine ⟨_, pg_name hN hi hx hf, fun d v σ G H ε ε' s r h Q hq => ?_⟩
  unfold tName at h
  split at h
  · rename_i hl
    cases h
    obtain ⟨s2, o⟩ := s.setPu hl r hc
    refine hq _ s2 o (fun j hj => ?_) (by rw [List.length_set])
    have hj' : i ≠ j := fun e => hj (by rw [e]; simp)
    exact ⟨List.getElem?_set_ne hj', List.getElem?_set_ne hj'⟩
  · cases h
theorem ptgs_nil : PTgs M X [] tsNil [] := by
  refine ⟨_, pgs_nil, fun ds vs σ G H ε ε' s r h Q hq => ?_, fun ds ε ε' h => ?_⟩
  · cases ds with
    | nil =>
      cases h
      exact ⟨r.of_nil, hq σ s (fun _ h => h) (fun _ _ => ⟨rfl, rfl⟩) rfl⟩
    | cons d ds => cases h
  · cases ds with
    | nil => rfl
    | cons d ds => cases h
theorem ptgs_cons {e : Expr} {es : List Expr} {f1 : D → Ev → Res Ev} {f2 : List D → Ev → Res Ev} {is js : List Nat} (h1 : PTg M X e f1 is) (h2 : PTgs M X es f2 js)
    (hs : (assignEach (e :: es) X.env).map (·.2) = assign e X.env :: (assignEach es X.env).map (·.2) := by rfl) : PTgs M X (e :: es) (tsCons f1 f2) (is ++ js) := by
  obtain ⟨g1, p1, q1⟩ := h1
  obtain ⟨g2, p2, q2, l2⟩ := h2
  refine ⟨_, pgs_cons p1 p2 hs, fun ds vs σ G H ε ε' s r h Q hq => ?_, fun ds ε ε' h => ?_⟩
  · cases ds with
    | nil => cases h
    | cons d ds =>
      obtain ⟨v, ws, rfl, rv, rl⟩ := r.of_cons
      cases e1 : f1 d ε with
      | stuck => simp only [tsCons, e1] at h; cases h
      | err c => simp only [tsCons, e1] at h; cases h
      | ok ε1 =>
        have h' : f2 ds ε1 = .ok ε' := by simpa only [tsCons, e1, Res.bind_ok] using h
        refine ⟨v, ws, rfl, q1 d v σ G H ε ε1 s rv e1 _ fun σ1 s1 o1 k1 n1 => ?_⟩
        refine q2 ds ws σ1 G H ε1 ε' s1 rl h' Q fun σ2 s2 o2 k2 n2 => ?_
        refine hq σ2 s2 (fun q z => o1 q (o2 q z)) (fun i hi => ?_) (n2.trans n1)
        have hi' : i ∉ is ∧ i ∉ js := by simpa only [List.mem_append, not_or] using hi
        exact ⟨(k2 i hi'.2).1.trans (k1 i hi'.1).1, (k2 i hi'.2).2.trans (k1 i hi'.1).2⟩
  · cases ds with
    | nil => cases h
    | cons d ds =>
      cases e1 : f1 d ε with
      | stuck => simp only [tsCons, e1] at h; cases h
      | err c => simp only [tsCons, e1] at h; cases h
      | ok ε1 =>
        have h' : f2 ds ε1 = .ok ε' := by simpa only [tsCons, e1, Res.bind_ok] using h
        simp [l2 ds ε1 ε' h']
theorem ptg_tup (c : CO M W k X) {es : List Expr} {kk : Nat} {f2 : List D → Ev → Res Ev} {is : List Nat} (h : PTgs M X es f2 is) (hn : (assignEach es X.env).length = es.length := by rfl) (hst : (assignEach es X.env).findIdx? (·.1) = none := by rfl) : PTg M X (.Tuple es kk pos) (tTupD f2) is := by
  obtain ⟨g, p, q, l⟩ := h
  refine ⟨_, pg_tup c.calm p hn hst, fun d v σ G H ε ε' s r h Q hq => ?_⟩
  cases d with
  | tup ds =>
    obtain ⟨a, vs, rfl, ha, rl⟩ := rp_tup.mp r
    refine ⟨a, vs, rfl, by rw [c.hK]; exact sqT_mono s.sub ha, ?_, q ds vs σ G H ε ε' s rl h Q hq⟩
    rw [← rl.length]
    exact l ds ε ε' h
  | _ => cases h
end
end PL
/-! PL, part g: comprehensions. -/
namespace PL
open PySem PySem.Spec PyProof.Rows L2

/-! ### one reading for a function -/
def tOf {α β : Type} (M : Fr) (W : WX) (R : Hp → β → α → Prop) (f : Ev → Res (β × Ev)) : St → Hp → (α → Hp → Prop) → Prop := fun σ H Q => ∃ G ε, SR M G H σ ε ∧ Post M W σ G H ε R (f ε) Q
theorem PV.pe {M : Fr} {W : WX} {X : Cx} {e : Expr} {f : Ev → Res (D × Ev)} (h : PV M W X e f) : PE X e (tOf M W (Rp M.F) f) := by
  obtain ⟨t, et, q⟩ := h
  exact ⟨fun pins s σ H Q I ⟨G, ε, r, p⟩ => et.run pins s σ H Q I (q σ G H ε r Q p)⟩
theorem PB.pt {M : Fr} {W : WX} {X : Cx} {e : Expr} {f : Ev → Res (Bool × Ev)} (h : PB M W X e f) : PT X e (tOf M W RB f) := by
  obtain ⟨t, et, q⟩ := h
  exact ⟨fun pins s σ H Q I ⟨G, ε, r, p⟩ => et.run pins s σ H Q I (q σ G H ε r Q p)⟩
def gOf (M : Fr) (f : D → Ev → Res Ev) (is : List Nat) : TG := fun v σ H Q => ∃ G ε d ε', SR M G H σ ε ∧ Rp M.F G d v ∧ f d ε = .ok ε' ∧
  ∀ σ', SR M G H σ' ε' → (∀ q, Own σ' ε' q → Own σ ε q) → (∀ i, i ∉ is → σ'[i]? = σ[i]? ∧ ε'[i]? = ε[i]?) → σ'.length = σ.length → Q σ' H
theorem PTg.pg {M : Fr} {X : Cx} {tg : Expr} {f : D → Ev → Res Ev} {is : List Nat} (h : PTg M X tg f is) : PG X tg (gOf M f is) := by
  obtain ⟨g, p, q⟩ := h
  exact ⟨fun pins s σ H v u Q I r ⟨G, ε, d, ε', sr, rd, e, k⟩ => p.run pins s σ H v u Q I r (q d v σ G H ε ε' sr rd e Q k)⟩

/-- the test of a comprehension: none or one -/
def PTs' (M : Fr) (W : WX) (X : Cx) (ifs : List Expr) (f : Ev → Res (Bool × Ev)) : Prop := PTs X ifs (tOf M W RB f)
theorem pts_nil' {M : Fr} {W : WX} {X : Cx} : PTs' M W X [] (fun ε => .ok (true, ε)) := by
  refine ⟨fun pins s σ H Q I ⟨G, ε, r, p⟩ => ?_⟩
  exact pts_nil.run pins s σ H Q I (p true G H r (Step.refl ..) rfl)
theorem pts_one' {M : Fr} {W : WX} {X : Cx} {c : Expr} {f : Ev → Res (Bool × Ev)} (h : PB M W X c f) : PTs' M W X [c] f := pts_one h.pt

/-! ### the slots of a block -/
@[simp] def wipeE (ε : Ev) : List Nat → Ev
  | [] => ε
  | v :: vs => (wipeE ε vs).set v .em
@[simp] def backE (ε ε2 : Ev) : List Nat → Ev
  | [] => ε2
  | v :: vs => (backE ε ε2 vs).set v (ε.getD v .em)
@[simp] def slotFree (ε : Ev) (v : Nat) : Bool := match ε[v]? with
  | some .em => true
  | some (.pu _) => true
  | _ => false
@[simp] def noOw (ε : Ev) (vs : List Nat) : Bool := vs.all (slotFree ε)
theorem wipeE_len (ε : Ev) : ∀ vs, (wipeE ε vs).length = ε.length
  | [] => rfl
  | v :: vs => by unfold wipeE; rw [List.length_set, wipeE_len ε vs]
theorem wipeE_in {ε : Ev} {i : Nat} {x : Slot} : ∀ {vs : List Nat}, i ∈ vs → (wipeE ε vs)[i]? = some x → x = .em
  | [], h, _ => by simp at h
  | v :: vs, h, e => by
    unfold wipeE at e
    by_cases hv : v = i
    · subst hv
      have hl : v < (wipeE ε vs).length := by
        have := (List.getElem?_eq_some_iff.mp e).1
        rwa [List.length_set] at this
      rw [List.getElem?_set_self hl] at e
      exact (Option.some.inj e).symm
    · rw [List.getElem?_set_ne hv] at e
      exact wipeE_in ((List.mem_cons.mp h).resolve_left fun z => hv z.symm) e
theorem wipeE_out {ε : Ev} {i : Nat} : ∀ {vs : List Nat}, i ∉ vs → (wipeE ε vs)[i]? = ε[i]?
  | [], _ => rfl
  | v :: vs, h => by
    unfold wipeE
    have h' : i ≠ v ∧ i ∉ vs := by simpa only [List.mem_cons, not_or] using h
    rw [List.getElem?_set_ne (Ne.symm h'.1)]
    exact wipeE_out h'.2
theorem wipe_out' {σ : St} {i : Nat} : ∀ {vs : List Nat}, i ∉ vs → (wipe σ vs)[i]? = σ[i]?
  | [], _ => rfl
  | v :: vs, h => by
    unfold wipe
    have h' : i ≠ v ∧ i ∉ vs := by simpa only [List.mem_cons, not_or] using h
    rw [List.getElem?_set_ne (Ne.symm h'.1)]
    exact wipe_out' h'.2
theorem backE_len (ε ε2 : Ev) : ∀ vs, (backE ε ε2 vs).length = ε2.length
  | [] => rfl
  | v :: vs => by unfold backE; rw [List.length_set, backE_len ε ε2 vs]
theorem backE_out {ε ε2 : Ev} {i : Nat} : ∀ {vs : List Nat}, i ∉ vs → (backE ε ε2 vs)[i]? = ε2[i]?
  | [], _ => rfl
  | v :: vs, h => by
    unfold backE
    have h' : i ≠ v ∧ i ∉ vs := by simpa only [List.mem_cons, not_or] using h
    rw [List.getElem?_set_ne (Ne.symm h'.1)]
    exact backE_out h'.2
theorem backE_in {ε ε2 : Ev} {i : Nat} {x : Slot} (hl : ε.length = ε2.length) : ∀ {vs : List Nat}, i ∈ vs → (backE ε ε2 vs)[i]? = some x → ε[i]? = some x
  | [], h, _ => by simp at h
  | v :: vs, h, e => by
    unfold backE at e
    by_cases hv : v = i
    · subst hv
      have h2 : v < (backE ε ε2 vs).length := by
        have := (List.getElem?_eq_some_iff.mp e).1
        rwa [List.length_set] at this
      rw [List.getElem?_set_self h2] at e
      have h3 : v < ε.length := by rw [backE_len] at h2; omega
      rw [List.getD_eq_getElem?_getD, List.getElem?_eq_getElem h3] at e
      rw [List.getElem?_eq_getElem h3]
      exact e
    · rw [List.getElem?_set_ne hv] at e
      exact backE_in hl ((List.mem_cons.mp h).resolve_left fun z => hv z.symm) e

/-- entering a block -/
theorem SR.wipe {M : Fr} {G H : Hp} {σ : St} {ε : Ev} (s : SR M G H σ ε) {vs : List Nat} (hc : M.cp = none ∨ 0 ∉ vs) : SR M G H (L2.wipe σ vs) (wipeE ε vs) ∧ ∀ q, Own (L2.wipe σ vs) (wipeE ε vs) q → Own σ ε q := by
  have own : ∀ (j : Nat) (ds : List D), (wipeE ε vs)[j]? = some (.ow ds) → j ∉ vs ∧ ε[j]? = some (.ow ds) := fun j ds e => by
    have h : j ∉ vs := fun z => by have := wipeE_in z e; cases this
    rw [wipeE_out h] at e
    exact ⟨h, e⟩
  refine ⟨⟨s.sub, s.ntb, s.tabs, by rw [wipeE_len, wipe_length]; exact s.len, fun j x o e1 e2 => ?_, fun j l ds es q e1 e2 e3 e4 => ?_, fun p hp => ?_⟩, fun q ⟨j, ds, e1, e2⟩ => ?_⟩
  · by_cases hj : j ∈ vs
    · rw [wipeE_in hj e1]; trivial
    · rw [wipeE_out hj] at e1
      rw [wipe_out' hj] at e2
      exact s.slots j x o e1 e2
  · obtain ⟨h1, e1⟩ := own j ds e1
    obtain ⟨h2, e2⟩ := own l es e2
    rw [wipe_out' h1] at e3
    rw [wipe_out' h2] at e4
    exact s.inj j l ds es q e1 e2 e3 e4
  · obtain ⟨a, ds, b⟩ := s.cup p hp
    have h0 : 0 ∉ vs := by
      rcases hc with z | z
      · rw [z] at hp; cases hp
      · exact z
    rw [wipe_out' h0, wipeE_out h0]
    exact ⟨a, ds, b⟩
  · obtain ⟨h1, e1⟩ := own j ds e1
    rw [wipe_out' h1] at e2
    exact ⟨j, ds, e1, e2⟩
/-- leaving it -/
theorem SR.back {M : Fr} {G H G2 H2 : Hp} {σ σ2 : St} {ε ε2 : Ev} {vs : List Nat} (s : SR M G H σ ε) (s2 : SR M G2 H2 σ2 ε2) (gg : ∀ q o, G q = some o → G2 q = some o) (hn : noOw ε vs = true) (hw : L2.wipe σ2 vs = L2.wipe σ vs) (hl : σ2.length = σ.length) :
    SR M G2 H2 σ (backE ε ε2 vs) ∧ ∀ q, Own σ (backE ε ε2 vs) q → Own σ2 ε2 q := by
  have hlen : ε.length = ε2.length := by rw [s.len, s2.len, hl]
  have eqσ : ∀ j, j ∉ vs → σ2[j]? = σ[j]? := fun j h => by
    rw [← wipe_out' (σ := σ2) h, hw, wipe_out' h]
  have free : ∀ j ∈ vs, ∀ ds, ε[j]? ≠ some (.ow ds) := fun j hj ds e => by
    have := List.all_eq_true.mp hn j hj
    simp [slotFree, e] at this
  have own : ∀ (j : Nat) (ds : List D), (backE ε ε2 vs)[j]? = some (.ow ds) → j ∉ vs ∧ ε2[j]? = some (.ow ds) := fun j ds e => by
    have h : j ∉ vs := fun z => free j z ds (backE_in hlen z e)
    rw [backE_out h] at e
    exact ⟨h, e⟩
  refine ⟨⟨s2.sub, s2.ntb, s2.tabs, by rw [backE_len, ← hlen]; exact s.len, fun j x o e1 e2 => ?_, fun j l ds es q e1 e2 e3 e4 => ?_, fun p hp => ?_⟩, fun q ⟨j, ds, e1, e2⟩ => ?_⟩
  · by_cases hj : j ∈ vs
    · have e3 := backE_in hlen hj e1
      have h := s.slots j x o e3 e2
      cases x with
      | em => trivial
      | pu d =>
        obtain ⟨v, e, r⟩ := h
        exact ⟨v, e, r.mono gg⟩
      | ow ds => exact absurd e3 (free j hj ds)
    · rw [backE_out hj] at e1
      rw [← eqσ j hj] at e2
      exact s2.slots j x o e1 e2
  · obtain ⟨h1, e1⟩ := own j ds e1
    obtain ⟨h2, e2⟩ := own l es e2
    rw [← eqσ j h1] at e3
    rw [← eqσ l h2] at e4
    exact s2.inj j l ds es q e1 e2 e3 e4
  · obtain ⟨a, ds, b⟩ := s2.cup p hp
    obtain ⟨a', ds', b'⟩ := s.cup p hp
    have h0 : 0 ∉ vs := fun z => free 0 z ds' b'
    rw [backE_out h0]
    exact ⟨a', ds, b⟩
  · obtain ⟨h1, e1⟩ := own j ds e1
    rw [← eqσ j h1] at e2
    exact ⟨j, ds, e1, e2⟩

/-! ### the loop -/
@[simp] def Res.ne {α : Type} : Res α → Res α
  | .ok a => .ok a
  | _ => .stuck
@[simp] theorem Res.ne_ok {α : Type} (a : α) : (Res.ok a).ne = .ok a := rfl
@[simp] theorem Res.ne_err {α : Type} (c : Nat) : (Res.err c : Res α).ne = .stuck := rfl
@[simp] theorem Res.ne_stuck {α : Type} : (Res.stuck : Res α).ne = .stuck := rfl
@[simp] def blkF (vs : List Nat) (tgt : D → Ev → Res Ev) (test : Ev → Res (Bool × Ev)) (elt : Ev → Res (D × Ev)) (x : D) (ε : Ev) : Res (Option D × Ev) :=
  (tgt x (wipeE ε vs)).bind fun ε1 => (test ε1).bind fun b => if b.1 then (elt b.2).bind fun r => .ok (some r.1, backE ε r.2 vs) else .ok (none, backE ε b.2 vs)
@[simp] def accD (acc : List D) : Option D → List D
  | some y => acc ++ [y]
  | none => acc
def loopC (vs : List Nat) (blk : D → Ev → Res (Option D × Ev)) : List D → Ev → List D → Res (List D × Ev)
  | [], ε, acc => .ok (acc, ε)
  | x :: xs, ε, acc => if noOw ε vs then (blk x ε).ne.bind fun p => loopC vs blk xs p.2 (accD acc p.1) else .stuck
def eComp (vs : List Nat) (src : Ev → Res (List D × Ev)) (tgt : D → Ev → Res Ev) (test : Ev → Res (Bool × Ev)) (elt : Ev → Res (D × Ev)) : Ev → Res (List D × Ev) := fun ε =>
  (src ε).bind fun p => if p.1.length ≤ 1000000 then loopC vs (blkF vs tgt test elt) p.1 p.2 [] else .stuck
abbrev W0 : WX := fun _ _ _ _ => False

theorem takes00 {X : Cx} : L2N.Takes X W0 := fun _ _ x => by
  obtain ⟨_, _, _, _, _, _, _, _, _, _, _, _, _, _, _, _, z⟩ := x
  exact z.elim
theorem CO.blk {M : Fr} {W : WX} {k : Nat} {X : Cx} (c : CO M W k X) (s : Shared) (H : Hp) (scope : Scope) (env : Env) (fp : List Addr) : CO M W0 k (X.blk s H scope env fp) :=
  ⟨c.hK, c.calm, takes00, c.nd, c.hr, PassesOwn.never⟩
theorem errOk_never {M : Fr} {G H : Hp} {σ : St} {ε : Ev} {c : Nat} (s : SR M G H σ ε) (h : ErrOk M W0 G H (Own σ ε) c) : False := h σ G H ε s (Step.refl ..)

/-- the invariant of a comprehension's loop -/
structure LcInv (M : Fr) (σ : St) (G0 H0 : Hp) (O0 : Addr → Prop) (G1 : Hp) (ds : List D) (vs : List Nat) (blk : D → Ev → Res (Option D × Ev)) (r : Res (List D × Ev)) (A : Addr) (i m : Nat) (H : Hp) (G : Hp) (ε : Ev) (acc : List D) (av : List V) : Prop where
  hm : m = ds.length - i
  hi : i ≤ ds.length
  sr : SR M G H σ ε
  st : Step G0 H0 O0 G H (Own σ ε)
  g1 : ∀ q o, G1 q = some o → G q = some o
  gA : G A = none
  hA : H A = some (.lst av)
  no : ¬ Own σ ε A
  rl : RpL M.F G acc av
  al : acc.length ≤ i
  eq : loopC vs blk (ds.drop i) ε acc = r

theorem tr_lc {M : Fr} {W : WX} {wi : TI} {src : Ev → Res (List D × Ev)} {tgt : D → Ev → Res Ev} {is : List Nat} {test : Ev → Res (Bool × Ev)} {elt : Ev → Res (D × Ev)} {vs : List Nat} (hw : Tr M W (fun G ds J => ItOk M.F J G ds) wi src) (hc : M.cp = none ∨ 0 ∉ vs) (his : ∀ i ∈ is, i ∈ vs) :
    TrN M W (tLc wi (gOf M tgt is) (tOf M W0 RB test) (tOf M W0 (Rp M.F) elt) vs) (eComp vs src tgt test elt) := by
  intro σ G H ε s Q hp
  refine hw σ G H ε s _ ?_
  unfold eComp at hp
  cases e0 : src ε with
  | stuck => rw [e0] at hp; exact hp
  | err c => rw [e0] at hp; exact hp
  | ok p =>
    rw [e0] at hp
    simp only [Res.bind_ok] at hp
    intro J G1 H1 s1 st1 ij A nA
    by_cases hz : p.1.length ≤ 1000000
    case neg => rw [if_neg hz] at hp; exact hp.elim
    rw [if_pos hz] at hp
    generalize hr : loopC vs (blkF vs tgt test elt) p.1 p.2 [] = r at hp
    obtain ⟨sA, stA, gA, noA⟩ := s1.newH (o := .lst []) nA
    refine ⟨fun i m H => ∃ G ε' acc av, LcInv M σ G1 H1 (Own σ p.2) G1 p.1 vs (blkF vs tgt test elt) r A i m H G ε' acc av, ⟨p.1.length, G1, p.2, [], [], by simp, Nat.zero_le _, sA, stA, fun _ _ h => h, gA, upd_same, noA, RpL.nil, Nat.le_refl _, by rw [List.drop_zero]; exact hr⟩, ?_⟩
    rintro i m H2 ⟨G2, ε2, acc, av, L⟩
    have it := ij i G2 H2 L.sr.hg L.g1
    by_cases hlt : i < p.1.length
    case neg =>
      have hi : i = p.1.length := by have := L.hi; omega
      refine .inl ⟨it.2 (by omega), ?_⟩
      have eq := L.eq
      rw [hi, List.drop_length] at eq
      have eq' : r = .ok (acc, ε2) := eq.symm
      rw [eq'] at hp
      have hp1 : PostN M W σ G1 H1 p.2 (.ok (acc, ε2)) Q := PostN.shift s1 st1 hp
      exact hp1 A av G2 H2 L.sr L.st L.gA L.hA L.rl nA L.no
    case pos =>
      obtain ⟨go, yld⟩ := it.1 p.1[i] (List.getElem?_eq_getElem hlt)
      have hd : p.1.drop i = p.1[i] :: p.1.drop (i + 1) := List.drop_eq_getElem_cons hlt
      have eq := L.eq
      rw [hd] at eq
      simp only [loopC] at eq
      by_cases hno : noOw ε2 vs = true
      case neg =>
        rw [if_neg hno] at eq
        rw [← eq] at hp
        exact hp.elim
      rw [if_pos hno] at eq
      refine .inr ⟨go, fun H' => ∃ G ε' acc av, LcInv M σ G1 H1 (Own σ p.2) G1 p.1 vs (blkF vs tgt test elt) r A (i + 1) (p.1.length - (i + 1)) H' G ε' acc av, fun H' h => ⟨p.1.length - (i + 1), by have := L.hm; omega, h⟩, fun x H3 y => ?_⟩
      obtain ⟨G3, gr, hg3, rx⟩ := yld x H3 y
      have s3 : SR M G3 H3 σ ε2 := L.sr.grow gr hg3.sub hg3.ntb hg3.tabs
      have st3 : Step G1 H1 (Own σ p.2) G3 H3 (Own σ ε2) := L.st.trans L.sr.sub (gr.step _)
      have gA3 : G3 A = none := by
        cases q : G3 A with
        | none => rfl
        | some u =>
          rcases gr.gn A u q with z | z
          · rw [L.gA] at z; cases z
          · rw [L.hA] at z; cases z
      have hA3 : H3 A = some (.lst av) := gr.hh _ _ L.hA (fun ps z => by cases z)
      obtain ⟨s4, o4⟩ := s3.wipe hc
      cases e1 : tgt p.1[i] (wipeE ε2 vs) with
      | stuck => simp only [blkF, e1, Res.bind_stuck, Res.ne_stuck] at eq; rw [← eq] at hp; exact hp.elim
      | err c => simp only [blkF, e1, Res.bind_err, Res.ne_err] at eq; rw [← eq] at hp; exact hp.elim
      | ok ε5 =>
        refine ⟨G3, wipeE ε2 vs, p.1[i], ε5, s4, rx, e1, fun σ5 s5 o5 k5 n5 => ?_⟩
        have hl5 : σ5.length = σ.length := n5.trans (wipe_length σ vs)
        have hw5 : L2.wipe σ5 vs = L2.wipe σ vs := by
          apply List.ext_getElem?
          intro j
          by_cases hj : j ∈ vs
          · have w : ∀ (τ : St), τ.length = σ.length → (L2.wipe τ vs)[j]? = (if j < σ.length then some none else none) := fun τ hτ => by
              by_cases hjl : j < σ.length
              · rw [if_pos hjl]
                cases q : (L2.wipe τ vs)[j]? with
                | none =>
                  have := List.getElem?_eq_none_iff.mp q
                  rw [wipe_length] at this
                  omega
                | some o =>
                  cases o with
                  | none => rfl
                  | some v => exact absurd hj (wipe_some q).2
              · rw [if_neg hjl, List.getElem?_eq_none_iff, wipe_length]; omega
            rw [w σ5 hl5, w σ rfl]
          · rw [wipe_out' hj]
            have := (k5 j fun z => hj (his j z)).1
            rw [this]
        refine ⟨hw5, G3, ε5, s5, ?_⟩
        have no5 : ¬ Own σ5 ε5 A := fun z => L.no (o4 _ (o5 _ z))
        have eqB : ∀ r', (test ε5).bind (fun b => if b.1 then (elt b.2).bind fun r => Res.ok (some r.1, backE ε2 r.2 vs) else .ok (none, backE ε2 b.2 vs)) = r' → r'.ne.bind (fun p_1 => loopC vs (blkF vs tgt test elt) (p.1.drop (i + 1)) p_1.2 (accD acc p_1.1)) = r := fun r' h => by
          rw [← h, ← eq]
          simp only [blkF, e1, Res.bind_ok]
        cases e2 : test ε5 with
        | stuck =>
          have := eqB .stuck (by rw [e2]; rfl)
          rw [← this] at hp; exact hp.elim
        | err c =>
          have := eqB (.err c) (by rw [e2]; rfl)
          rw [← this] at hp; exact hp.elim
        | ok b =>
          intro bv G6 H6 s6 st6 rb
          simp only [RB] at rb
          subst rb
          have gA6 : ∀ {G H : Hp} {O : Addr → Prop}, Step G3 H3 (Own σ5 ε5) G H O → G A = none := fun {G H O} st => by
            cases q : G A with
            | none => rfl
            | some u =>
              rcases st.gn A u q with z | z | z
              · rw [gA3] at z; cases z
              · rw [hA3] at z; cases z
              · exact (no5 z).elim
          have hA6 : ∀ {G H : Hp} {O : Addr → Prop}, Step G3 H3 (Own σ5 ε5) G H O → H A = some (.lst av) := fun st => st.hh _ _ hA3 (fun ps z => by cases z) no5
          -- behind the block's turn
          have fin : ∀ {G7 H7 : Hp} {ε7 : Ev}, SR M G7 H7 σ5 ε7 → Step G3 H3 (Own σ5 ε5) G7 H7 (Own σ5 ε7) → SR M G7 H7 σ (backE ε2 ε7 vs) ∧ Step G1 H1 (Own σ p.2) G7 H7 (Own σ (backE ε2 ε7 vs)) ∧ ¬ Own σ (backE ε2 ε7 vs) A := fun {G7 H7 ε7} s7 st7 => by
            obtain ⟨sb, ob⟩ := s3.back s7 st7.gg hno hw5 hl5
            have o75 : ∀ q, Own σ (backE ε2 ε7 vs) q → Own σ ε2 q ∨ H3 q = none := fun q z => (st7.oo q (ob q z)).elim (fun y => .inl (o4 q (o5 q y))) .inr
            have stt : Step G3 H3 (Own σ ε2) G7 H7 (Own σ (backE ε2 ε7 vs)) :=
              ⟨st7.gg, fun q o h nt nn => st7.hh q o h nt fun y => nn (o4 q (o5 q y)), st7.hs, fun q o h => (st7.gn q o h).elim .inl fun z => .inr (z.elim .inl fun y => .inr (o4 q (o5 q y))), o75⟩
            refine ⟨sb, st3.trans s3.sub stt, fun z => ?_⟩
            rcases o75 A z with y | y
            · exact L.no y
            · rw [hA3] at y; cases y
          cases hb : b.1 with
          | false =>
            rw [if_neg Bool.false_ne_true]
            have e3 := eqB (.ok (none, backE ε2 b.2 vs)) (by rw [e2]; simp [hb])
            obtain ⟨sb, stb, nb⟩ := fin s6 st6
            refine ⟨G6, backE ε2 b.2 vs, acc, av, rfl, by omega, sb, stb, fun q o h => st6.gg _ _ (gr.gg _ _ (L.g1 q o h)), gA6 st6, hA6 st6, nb, L.rl.mono fun q o h => st6.gg _ _ (gr.gg _ _ h), by have := L.al; omega, ?_⟩
            simpa [accD] using e3
          | true =>
            rw [if_pos rfl]
            refine ⟨G6, b.2, s6, ?_⟩
            cases e3 : elt b.2 with
            | stuck =>
              have := eqB .stuck (by rw [e2]; simp [hb, e3])
              rw [← this] at hp; exact hp.elim
            | err c =>
              have := eqB (.err c) (by rw [e2]; simp [hb, e3])
              rw [← this] at hp; exact hp.elim
            | ok y =>
              intro yv G7 H7 s7 st7' ry
              have st7 := st6.trans s6.sub st7'
              have e4 := eqB (.ok (some y.1, backE ε2 y.2 vs)) (by rw [e2]; simp [hb, e3])
              obtain ⟨sb, stb, nb⟩ := fin s7 st7
              refine ⟨av, hA6 st7, ?_, ?_⟩
              · have h1 := L.rl.length
                have h2 := L.al
                have h3 : (1000000 : Nat) < sizeLine := by rw [sizeLine_eq]; decide
                omega
              · have rl7 : RpL M.F G7 (acc ++ [y.1]) (av ++ [yv]) := (L.rl.mono fun q o h => st7.gg _ _ (gr.gg _ _ h)).append (RpL.cons ry RpL.nil)
                -- the new list's object is written
                have neA : ∀ q o, G7 q = some o → q ≠ A := fun q o h z => by rw [z, gA6 st7] at h; cases h
                have su : SR M G7 (upd H7 A (.lst (av ++ [yv]))) σ (backE ε2 y.2 vs) := by
                  refine ⟨fun q o h => by rw [upd_ne (neA q o h)]; exact sb.sub q o h, sb.ntb, ?_, sb.len, fun j x o e1 e2 => ?_, sb.inj, sb.cup⟩
                  · intro t ht
                    obtain ⟨ps, h1, h2, h3⟩ := sb.tabs t ht
                    refine ⟨ps, ?_, h2, fun pos cv hc => ?_⟩
                    · rw [upd_ne (fun z => by rw [z, hA6 st7] at h1; cases h1)]; exact h1
                    · obtain ⟨cc, e1, e2⟩ := h3 pos cv hc
                      refine ⟨cc, e1, ?_⟩
                      rw [upd_ne (fun z => by rw [z, hA6 st7] at e2; unfold LamX.CodeO at e2; cases e2)]; exact e2
                  · have h := sb.slots j x o e1 e2
                    cases x with
                    | em => trivial
                    | pu d => exact h
                    | ow es =>
                      obtain ⟨q, ws, e, n, hq, r⟩ := h
                      refine ⟨q, ws, e, n, ?_, r⟩
                      rw [upd_ne (fun z => nb ⟨j, es, e1, by rw [← z, ← e]; exact e2⟩)]
                      exact hq
                refine ⟨G7, backE ε2 y.2 vs, acc ++ [y.1], av ++ [yv], rfl, by omega, su, ⟨stb.gg, fun q o h nt nn => ?_, fun q h => ?_, stb.gn, stb.oo⟩, fun q o h => st7.gg _ _ (gr.gg _ _ (L.g1 q o h)), gA6 st7, upd_same, nb, rl7, by have := L.al; simp; omega, ?_⟩
                · rw [upd_ne (ne_of_none h nA)]; exact stb.hh q o h nt nn
                · unfold upd at h
                  split at h
                  · cases h
                  · exact stb.hs q h
                · simpa [accD] using e4

section
variable {M : Fr} {W : WX} {X : Cx} {k : Nat} {pos : Pos}
theorem pn_lc (c : CO M W k X) {elt tg iter : Expr} {ifs : List Expr} {scope : Scope} {own : List (Str × Nat)} {src : Ev → Res (List D × Ev)} {tgt : D → Ev → Res Ev} {is : List Nat} {ft : Ev → Res (Bool × Ev)} {fe : Ev → Res (D × Ev)} (hi : PIt M W X tg iter src) (ok : blkC X.N X.env.scope scope own = true)
    (hg : ∀ (s : Shared) (H : Hp) (C : Addr) (cl : List (Str × Addr)) (fp : List Addr), CO M W0 k (X.blk s H scope (compEnvC scope cl C X.env) fp) → PTg M (X.blk s H scope (compEnvC scope cl C X.env) fp) tg tgt is)
    (ht : ∀ (s : Shared) (H : Hp) (C : Addr) (cl : List (Str × Addr)) (fp : List Addr), CO M W0 k (X.blk s H scope (compEnvC scope cl C X.env) fp) → PTs' M W0 (X.blk s H scope (compEnvC scope cl C X.env) fp) ifs ft)
    (he : ∀ (s : Shared) (H : Hp) (C : Addr) (cl : List (Str × Addr)) (fp : List Addr), CO M W0 k (X.blk s H scope (compEnvC scope cl C X.env) fp) → PV M W0 (X.blk s H scope (compEnvC scope cl C X.env) fp) elt fe)
    (hc : M.cp = none ∨ 0 ∉ own.map (·.2)) (his : ∀ i ∈ is, i ∈ own.map (·.2)) (hs : ∀ x, foldedSetIterable iter X.env x = pure x := by intro _; rfl) :
    PN M W X (.ListComp elt [⟨tg, iter, ifs, 0⟩] scope pos) (eComp (own.map (·.2)) src tgt ft fe) := by
  obtain ⟨wi, ei, qi⟩ := hi
  exact ⟨_, pe_lc c.calm c.nd ei (blkOk_by ok) (fun s H C cl fp => (hg s H C cl fp (c.blk ..)).pg) (fun s H C cl fp => ht s H C cl fp (c.blk ..)) (fun s H C cl fp => (he s H C cl fp (c.blk ..)).pe) hs, tr_lc qi hc his⟩
end
end PL
/-! PL, part h: statements. -/
namespace PL
open PySem PySem.Spec PyProof.Rows L2

inductive Out where
  | nx (ε : Ev) | rt (d : D) (ε : Ev) | bk (ε : Ev) | ct (ε : Ev) | err (c : Nat) | stuck

def PostS (M : Fr) (W : WX) (σ : St) (G H : Hp) (ε : Ev) (r : Out) (E : Ends) : Prop :=
  match r with
  | .nx ε' => ∀ σ' G' H', SR M G' H' σ' ε' → Step G H (Own σ ε) G' H' (Own σ' ε') → E.nx σ' H'
  | .bk ε' => ∀ σ' G' H', SR M G' H' σ' ε' → Step G H (Own σ ε) G' H' (Own σ' ε') → E.bk σ' H'
  | .ct ε' => ∀ σ' G' H', SR M G' H' σ' ε' → Step G H (Own σ ε) G' H' (Own σ' ε') → E.ct σ' H'
  | .rt d ε' => ∀ v σ' G' H', SR M G' H' σ' ε' → Step G H (Own σ ε) G' H' (Own σ' ε') → Rp M.F G' d v → E.rt v H'
  | .err c => ErrOk M W G H (Own σ ε) c
  | .stuck => False
theorem PostS.shift {M : Fr} {W : WX} {σ σ1 : St} {G H G1 H1 : Hp} {ε ε1 : Ev} {r : Out} {E : Ends} (s1 : SR M G1 H1 σ1 ε1) (st : Step G H (Own σ ε) G1 H1 (Own σ1 ε1)) (h : PostS M W σ G H ε r E) : PostS M W σ1 G1 H1 ε1 r E := by
  cases r with
  | nx ε' => exact fun σ' G' H' s t => h σ' G' H' s (st.trans s1.sub t)
  | bk ε' => exact fun σ' G' H' s t => h σ' G' H' s (st.trans s1.sub t)
  | ct ε' => exact fun σ' G' H' s t => h σ' G' H' s (st.trans s1.sub t)
  | rt d ε' => exact fun v σ' G' H' s t => h v σ' G' H' s (st.trans s1.sub t)
  | err c => exact ErrOk.shift s1.sub st h
  | stuck => exact h
def TrS (M : Fr) (W : WX) (t : TS) (f : Ev → Out) : Prop := ∀ (σ : St) (G H : Hp) (ε : Ev), SR M G H σ ε → ∀ E : Ends, PostS M W σ G H ε (f ε) E → t E σ H
def PS' (M : Fr) (W : WX) (X : Cx) (st : Stmt) (f : Ev → Out) : Prop := ∃ t, PS X st t ∧ TrS M W t f
def PSs' (M : Fr) (W : WX) (X : Cx) (st : List Stmt) (f : Ev → Out) : Prop := ∃ t, PSs X st t ∧ TrS M W t f

@[reducible, simp] def Out.andThen (r : Out) (g : Ev → Out) : Out := match r with
  | .nx ε => g ε
  | r => r
@[reducible, simp] def sSeq (f g : Ev → Out) : Ev → Out := fun ε => (f ε).andThen g
@[reducible, simp] def Res.out {α : Type} (r : Res α) (g : α → Out) : Out := match r with
  | .ok a => g a
  | .err c => .err c
  | .stuck => .stuck
@[reducible, simp] def sDrop (f : Ev → Res (D × Ev)) : Ev → Out := fun ε => (f ε).out fun p => .nx p.2
@[reducible, simp] def sRet (f : Ev → Res (D × Ev)) : Ev → Out := fun ε => (f ε).out fun p => .rt p.1 p.2
@[reducible, simp] def sIf (c : Ev → Res (Bool × Ev)) (f g : Ev → Out) : Ev → Out := fun ε => (c ε).out fun p => if p.1 then f p.2 else g p.2
@[reducible, simp] def sTg (tgt : D → Ev → Res Ev) (f : Ev → Res (D × Ev)) : Ev → Out := fun ε => (f ε).out fun p => (tgt p.1 p.2).ne.out fun ε' => .nx ε'
@[reducible, simp] def sOwn (i : Nat) (f : Ev → Res (List D × Ev)) : Ev → Out := fun ε => (f ε).out fun p => if i < p.2.length then .nx (p.2.set i (.ow p.1)) else .stuck

section
variable {M : Fr} {W : WX} {X : Cx} {k : Nat} {e : Expr} {st : Stmt} {rest : List Stmt} {f g : Ev → Out} {fe : Ev → Res (D × Ev)} {pos : Pos}
theorem pss_nil' : PSs' M W X [] (fun ε => .nx ε) := ⟨_, pss_nil, fun σ G H ε s E hp => hp σ G H s (Step.refl ..)⟩
theorem pss_cons' (h1 : PS' M W X st f) (h2 : PSs' M W X rest g) : PSs' M W X (st :: rest) (sSeq f g) := by
  obtain ⟨t, et, qt⟩ := h1
  obtain ⟨u, eu, qu⟩ := h2
  refine ⟨_, pss_cons et eu, fun σ G H ε s E hp => ?_⟩
  refine qt σ G H ε s _ ?_
  cases e : f ε with
  | nx ε' =>
    simp only [sSeq, e, Out.andThen] at hp
    intro σ' G' H' s' st'
    exact qu σ' G' H' ε' s' E (hp.shift s' st')
  | bk ε' => simp only [sSeq, e, Out.andThen] at hp; exact hp
  | ct ε' => simp only [sSeq, e, Out.andThen] at hp; exact hp
  | rt d ε' => simp only [sSeq, e, Out.andThen] at hp; exact hp
  | err c => simp only [sSeq, e, Out.andThen] at hp; exact hp
  | stuck => simp only [sSeq, e, Out.andThen] at hp; exact hp
theorem pss_one' (h1 : PS' M W X st f) : PSs' M W X [st] f := by
  obtain ⟨t, et, qt⟩ := h1
  exact ⟨_, pss_one et, qt⟩
theorem ps_pass' : PS' M W X (.Pass pos) (fun ε => .nx ε) := ⟨_, ps_pass, fun σ G H ε s E hp => hp σ G H s (Step.refl ..)⟩
theorem ps_break' : PS' M W X (.Break pos) (fun ε => .bk ε) := ⟨_, ps_break, fun σ G H ε s E hp => hp σ G H s (Step.refl ..)⟩
theorem ps_continue' : PS' M W X (.Continue pos) (fun ε => .ct ε) := ⟨_, ps_continue, fun σ G H ε s E hp => hp σ G H s (Step.refl ..)⟩
/-- a value, then what is done with it -/
theorem trS_val {α β : Type} {R : Hp → β → α → Prop} {t : St → Hp → (α → Hp → Prop) → Prop} {fv : Ev → Res (β × Ev)} (ht : Tr M W R t fv) {u : α → TS} {go : β → Ev → Out}
    (h : ∀ b a σ G H ε, SR M G H σ ε → R G b a → ∀ E, PostS M W σ G H ε (go b ε) E → u a E σ H) : TrS M W (fun E σ H => t σ H fun a H1 => u a E σ H1) (fun ε => (fv ε).out fun p => go p.1 p.2) := by
  intro σ G H ε s E hp
  refine ht σ G H ε s _ ?_
  cases e : fv ε with
  | stuck => simp only [e, Res.out] at hp; exact hp
  | err c => simp only [e, Res.out] at hp; exact hp
  | ok p =>
    simp only [e, Res.out] at hp
    intro a G' H' s' st' r
    exact h p.1 a σ G' H' p.2 s' r E (hp.shift s' st')
theorem ps_expr' (he : PV M W X e fe) (hs : swapsWith e none pos.line X.env = pure false := by rfl) : PS' M W X (.Expr e pos) (sDrop fe) := by
  obtain ⟨t, et, qt⟩ := he
  refine ⟨_, ps_expr et hs, trS_val (go := fun _ ε => .nx ε) (u := fun _ E σ H => E.nx σ H) qt ?_⟩
  intro d v σ G H ε s r E hp
  exact hp σ G H s (Step.refl ..)
theorem ps_ret' (he : PV M W X e fe) : PS' M W X (.Return (some e) pos) (sRet fe) := by
  obtain ⟨t, et, qt⟩ := he
  refine ⟨_, ps_ret et, trS_val (go := fun d ε => .rt d ε) (u := fun v E _ H => E.rt v H) qt ?_⟩
  intro d v σ G H ε s r E hp
  exact hp v σ G H s (Step.refl ..) r
theorem ps_retN' : PS' M W X (.Return none pos) (fun ε => .rt .non ε) := ⟨_, ps_retN, fun σ G H ε s E hp => hp .non σ G H s (Step.refl ..) (rp_non.mpr rfl)⟩
theorem ps_if' {c : Expr} {a b : List Stmt} {fc : Ev → Res (Bool × Ev)} (hc : PB M W X c fc) (ha : PSs' M W X a f) (hb : PSs' M W X b g) : PS' M W X (.If c a b pos) (sIf fc f g) := by
  obtain ⟨t, et, qt⟩ := hc
  obtain ⟨u, eu, qu⟩ := ha
  obtain ⟨w, ew, qw⟩ := hb
  refine ⟨_, ps_if et eu ew, trS_val (go := fun b ε => if b then f ε else g ε) (u := fun b E σ H => if b = true then u E σ H else w E σ H) qt ?_⟩
  intro b b' σ G H ε s r E hp
  simp only [RB] at r
  subst r
  cases b with
  | true => exact qu σ G H ε s E hp
  | false => exact qw σ G H ε s E hp

/-! ### stores -/
theorem ps_tg' {tg : Expr} {tgt : D → Ev → Res Ev} {is : List Nat} (he : PV M W X e fe) (hg : PTg M X tg tgt is) (hs : swapsWithSole [tg] e pos.line X.env = pure false := by rfl) (hw : swappedStores [tg] e X.env = pure none := by rfl)
    (h1 : (assignEach [tg] X.env).map (·.2) = [assign tg X.env] := by rfl) : PS' M W X (.Assign [tg] e pos) (sTg tgt fe) := by
  obtain ⟨t, et, qt⟩ := he
  obtain ⟨g, eg, qg⟩ := hg
  refine ⟨_, ps_asg et eg hs hw h1, trS_val (go := fun d ε => (tgt d ε).ne.out fun ε' => .nx ε') (u := fun v E σ H => g v σ H E.nx) qt ?_⟩
  intro d v σ G H ε s r E hp
  cases e1 : tgt d ε with
  | stuck => simp only [e1, Res.ne, Res.out] at hp; exact hp.elim
  | err c => simp only [e1, Res.ne, Res.out] at hp; exact hp.elim
  | ok ε' =>
    simp only [e1, Res.ne, Res.out] at hp
    exact qg d v σ G H ε ε' s r e1 _ fun σ' s' o' _ _ => hp σ' G H s' ⟨fun _ _ h => h, fun _ _ h _ _ => h, fun _ h => h, fun _ _ h => .inl h, fun q z => .inl (o' q z)⟩
theorem trS_setName {i : Nat} {te : TE} (qt : Tr M W (Rp M.F) te fe) (hc : M.cp = none ∨ i ≠ 0) : TrS M W (tAsg te (gName i)) (sTg (tName i) fe) := by
  refine trS_val (go := fun d ε => (tName i d ε).ne.out fun ε' => .nx ε') (u := fun v E σ H => gName i v σ H E.nx) qt ?_
  intro d v σ G H ε s r E hp
  simp only [tName] at hp
  split at hp
  · rename_i hl
    obtain ⟨s2, o⟩ := s.setPu hl r hc
    exact hp _ G H s2 ⟨fun _ _ h => h, fun _ _ h _ _ => h, fun _ h => h, fun _ _ h => .inl h, fun q z => .inl (o q z)⟩
  · exact hp.elim
theorem ps_set' (c : CO M W k X) {i : Nat} {x : Str} {pos' : Pos} (he : PV M W X e fe) (hc : M.cp = none ∨ i ≠ 0) (hi : X.N[i]? = some x := by rfl) (hx : Loc X.env.scope x := by first | exact Or.inl rfl | exact Or.inr rfl)
    (hs : swapsWith e (some (.Name x pos')) pos.line X.env = pure false := by rfl) (hf : X.fn x = true ∨ X.env.scope.names.lookup x = some .local := by first | exact .inl rfl | exact .inr rfl | assumption) :
    PS' M W X (.Assign [.Name x pos'] e pos) (sTg (tName i) fe) := by
  obtain ⟨t, et, qt⟩ := he
  exact ⟨_, ps_set c.nd hi hx et hs hf, trS_setName qt hc⟩

/-- a slot's new content: a known value, or a list of its own -/
def NewOk (F : Fx) (G H : Hp) (O : Addr → Prop) : Slot → V → Prop
  | .em, _ => False
  | .pu d, v => Rp F G d v
  | .ow ds, v => ∃ p vs, v = .ref p ∧ G p = none ∧ H p = some (.lst vs) ∧ RpL F G ds vs ∧ ¬ O p
theorem SR.setNew {G H : Hp} {σ : St} {ε : Ev} (s : SR M G H σ ε) {i : Nat} {x : Slot} {v : V} (hi : i < ε.length) (r : NewOk M.F G H (Own σ ε) x v) (hc : M.cp = none ∨ i ≠ 0) :
    SR M G H (σ.set i (some v)) (ε.set i x) ∧ ∀ q, Own (σ.set i (some v)) (ε.set i x) q → Own σ ε q ∨ ((∃ ds, x = .ow ds) ∧ v = .ref q) := by
  cases x with
  | em => exact r.elim
  | pu d =>
    obtain ⟨a, b⟩ := s.setPu hi r hc
    exact ⟨a, fun q z => .inl (b q z)⟩
  | ow es =>
    obtain ⟨p, vs, rfl, gp, hp, rl, no⟩ := r
    have hσ : i < σ.length := by rw [← s.len]; exact hi
    have old : ∀ (j : Nat), j ≠ i → (σ.set i (some (V.ref p)))[j]? = σ[j]? ∧ (ε.set i (.ow es))[j]? = ε[j]? := fun j hj => ⟨List.getElem?_set_ne (Ne.symm hj), List.getElem?_set_ne (Ne.symm hj)⟩
    refine ⟨⟨s.sub, s.ntb, s.tabs, by rw [List.length_set, List.length_set]; exact s.len, fun j x o e1 e2 => ?_, fun j l ds ds' q e1 e2 e3 e4 => ?_, fun p' hp' => ?_⟩, fun q ⟨j, ds, e1, e2⟩ => ?_⟩
    · by_cases hj : j = i
      · subst hj
        rw [List.getElem?_set_self hi] at e1
        rw [List.getElem?_set_self hσ] at e2
        cases e1
        cases e2
        exact ⟨p, vs, rfl, gp, hp, rl⟩
      · rw [(old j hj).2] at e1
        rw [(old j hj).1] at e2
        exact s.slots j x o e1 e2
    · by_cases hj : j = i
      · by_cases hl : l = i
        · rw [hj, hl]
        · subst hj
          rw [List.getElem?_set_self hσ] at e3
          cases e3
          rw [(old l hl).2] at e2
          rw [(old l hl).1] at e4
          exact (no ⟨l, ds', e2, e4⟩).elim
      · by_cases hl : l = i
        · subst hl
          rw [List.getElem?_set_self hσ] at e4
          cases e4
          rw [(old j hj).2] at e1
          rw [(old j hj).1] at e3
          exact (no ⟨j, ds, e1, e3⟩).elim
        · rw [(old j hj).2] at e1
          rw [(old j hj).1] at e3
          rw [(old l hl).2] at e2
          rw [(old l hl).1] at e4
          exact s.inj j l ds ds' q e1 e2 e3 e4
    · obtain ⟨a, ds, b⟩ := s.cup p' hp'
      have h0 : (0 : Nat) ≠ i := fun e => by
        rcases hc with z | z
        · rw [z] at hp'; cases hp'
        · exact z e.symm
      rw [(old 0 h0).1, (old 0 h0).2]
      exact ⟨a, ds, b⟩
    · by_cases hj : j = i
      · subst hj
        rw [List.getElem?_set_self hσ] at e2
        cases e2
        exact .inr ⟨⟨es, rfl⟩, rfl⟩
      · rw [(old j hj).2] at e1
        rw [(old j hj).1] at e2
        exact .inl ⟨j, ds, e1, e2⟩
theorem trS_setOwn {i : Nat} {te : TE} {fn : Ev → Res (List D × Ev)} (qt : TrN M W te fn) (hc : M.cp = none ∨ i ≠ 0) : TrS M W (tAsg te (gName i)) (sOwn i fn) := by
  intro σ G H ε s E hp
  refine qt σ G H ε s _ ?_
  simp only [sOwn] at hp
  cases e : fn ε with
  | stuck => simp only [e, Res.out] at hp; exact hp
  | err c => simp only [e, Res.out] at hp; exact hp
  | ok p =>
    simp only [e, Res.out] at hp
    split at hp
    · rename_i hl
      intro a vs G' H' s' st' gp hp' rl nh no
      obtain ⟨s2, o⟩ := s'.setNew (x := .ow p.1) (v := .ref a) hl ⟨a, vs, rfl, gp, hp', rl, no⟩ hc
      refine hp _ G' H' s2 ⟨st'.gg, st'.hh, st'.hs, st'.gn, fun q z => ?_⟩
      rcases o q z with y | ⟨_, y⟩
      · exact st'.oo q y
      · cases y; exact .inr nh
    · exact hp.elim
theorem ps_own' (c : CO M W k X) {i : Nat} {x : Str} {pos' : Pos} {fn : Ev → Res (List D × Ev)} (he : PN M W X e fn) (hc : M.cp = none ∨ i ≠ 0) (hi : X.N[i]? = some x := by rfl) (hx : Loc X.env.scope x := by first | exact Or.inl rfl | exact Or.inr rfl)
    (hs : swapsWith e (some (.Name x pos')) pos.line X.env = pure false := by rfl) (hf : X.fn x = true ∨ X.env.scope.names.lookup x = some .local := by first | exact .inl rfl | exact .inr rfl | assumption) :
    PS' M W X (.Assign [.Name x pos'] e pos) (sOwn i fn) := by
  obtain ⟨t, et, qt⟩ := he
  exact ⟨_, ps_set c.nd hi hx et hs hf, trS_setOwn qt hc⟩
/-! name = [.. for ..] on one line -/
section
variable {elt tg iter : Expr} {ifs : List Expr} {scope : Scope} {own : List (Str × Nat)} {spos py : Pos} {src : Ev → Res (List D × Ev)} {tgt : D → Ev → Res Ev} {is : List Nat} {ft : Ev → Res (Bool × Ev)} {fc : Ev → Res (D × Ev)}
theorem ps_lcAny (c : CO M W k X) {i : Nat} {y : Str} (hi : PIt M W X tg iter src) (ok : blkC X.N X.env.scope scope own = true)
    (hg : ∀ (s : Shared) (H : Hp) (C : Addr) (cl : List (Str × Addr)) (fp : List Addr), CO M W0 k (X.blk s H scope (compEnvC scope cl C X.env) fp) → PTg M (X.blk s H scope (compEnvC scope cl C X.env) fp) tg tgt is)
    (ht : ∀ (s : Shared) (H : Hp) (C : Addr) (cl : List (Str × Addr)) (fp : List Addr), CO M W0 k (X.blk s H scope (compEnvC scope cl C X.env) fp) → PTs' M W0 (X.blk s H scope (compEnvC scope cl C X.env) fp) ifs ft)
    (he : ∀ (s : Shared) (H : Hp) (C : Addr) (cl : List (Str × Addr)) (fp : List Addr), CO M W0 k (X.blk s H scope (compEnvC scope cl C X.env) fp) → PV M W0 (X.blk s H scope (compEnvC scope cl C X.env) fp) elt fc)
    (hcc : M.cp = none ∨ 0 ∉ own.map (·.2)) (his : ∀ i ∈ is, i ∈ own.map (·.2)) (hy : X.N[i]? = some y) (hyl : X.env.scope.names.lookup y = some .local)
    (hsw : swapsWith (.ListComp elt [⟨tg, iter, ifs, 0⟩] scope pos) (some (.Name y py)) spos.line X.env = pure true) (hs : ∀ x, foldedSetIterable iter X.env x = pure x := by intro _; rfl) :
    ∃ t, PS X (.Assign [.Name y py] (.ListComp elt [⟨tg, iter, ifs, 0⟩] scope pos) spos) (tAsg t (gName i)) ∧ TrN M W t (eComp (own.map (·.2)) src tgt ft fc) := by
  obtain ⟨wi, ei, qi⟩ := hi
  exact ⟨_, ps_setLc c.calm c.nd hy hyl hsw ei (blkOk_by ok) (fun s H C cl fp => (hg s H C cl fp (c.blk ..)).pg) (fun s H C cl fp => ht s H C cl fp (c.blk ..)) (fun s H C cl fp => (he s H C cl fp (c.blk ..)).pe) hs, tr_lc qi hcc his⟩
theorem ps_setLc' (c : CO M W k X) {i : Nat} {y : Str} (hi : PIt M W X tg iter src) (ok : blkC X.N X.env.scope scope own = true)
    (hg : ∀ (s : Shared) (H : Hp) (C : Addr) (cl : List (Str × Addr)) (fp : List Addr), CO M W0 k (X.blk s H scope (compEnvC scope cl C X.env) fp) → PTg M (X.blk s H scope (compEnvC scope cl C X.env) fp) tg tgt is)
    (ht : ∀ (s : Shared) (H : Hp) (C : Addr) (cl : List (Str × Addr)) (fp : List Addr), CO M W0 k (X.blk s H scope (compEnvC scope cl C X.env) fp) → PTs' M W0 (X.blk s H scope (compEnvC scope cl C X.env) fp) ifs ft)
    (he : ∀ (s : Shared) (H : Hp) (C : Addr) (cl : List (Str × Addr)) (fp : List Addr), CO M W0 k (X.blk s H scope (compEnvC scope cl C X.env) fp) → PV M W0 (X.blk s H scope (compEnvC scope cl C X.env) fp) elt fc)
    (hcc : M.cp = none ∨ 0 ∉ own.map (·.2)) (his : ∀ i ∈ is, i ∈ own.map (·.2)) (hc : M.cp = none ∨ i ≠ 0) (hy : X.N[i]? = some y := by rfl) (hyl : X.env.scope.names.lookup y = some .local := by rfl)
    (hsw : swapsWith (.ListComp elt [⟨tg, iter, ifs, 0⟩] scope pos) (some (.Name y py)) spos.line X.env = pure true := by exact sw_true rfl rfl rfl (by decide +kernel)) (hs : ∀ x, foldedSetIterable iter X.env x = pure x := by intro _; rfl) :
    PS' M W X (.Assign [.Name y py] (.ListComp elt [⟨tg, iter, ifs, 0⟩] scope pos) spos) (sTg (tName i) (eL (eComp (own.map (·.2)) src tgt ft fc))) := by
  obtain ⟨t, et, qt⟩ := ps_lcAny (i := i) (py := py) (spos := spos) c hi ok hg ht he hcc his hy hyl hsw hs
  exact ⟨_, et, trS_setName qt.tr hc⟩
theorem ps_ownLc' (c : CO M W k X) {i : Nat} {y : Str} (hi : PIt M W X tg iter src) (ok : blkC X.N X.env.scope scope own = true)
    (hg : ∀ (s : Shared) (H : Hp) (C : Addr) (cl : List (Str × Addr)) (fp : List Addr), CO M W0 k (X.blk s H scope (compEnvC scope cl C X.env) fp) → PTg M (X.blk s H scope (compEnvC scope cl C X.env) fp) tg tgt is)
    (ht : ∀ (s : Shared) (H : Hp) (C : Addr) (cl : List (Str × Addr)) (fp : List Addr), CO M W0 k (X.blk s H scope (compEnvC scope cl C X.env) fp) → PTs' M W0 (X.blk s H scope (compEnvC scope cl C X.env) fp) ifs ft)
    (he : ∀ (s : Shared) (H : Hp) (C : Addr) (cl : List (Str × Addr)) (fp : List Addr), CO M W0 k (X.blk s H scope (compEnvC scope cl C X.env) fp) → PV M W0 (X.blk s H scope (compEnvC scope cl C X.env) fp) elt fc)
    (hcc : M.cp = none ∨ 0 ∉ own.map (·.2)) (his : ∀ i ∈ is, i ∈ own.map (·.2)) (hc : M.cp = none ∨ i ≠ 0) (hy : X.N[i]? = some y := by rfl) (hyl : X.env.scope.names.lookup y = some .local := by rfl)
    (hsw : swapsWith (.ListComp elt [⟨tg, iter, ifs, 0⟩] scope pos) (some (.Name y py)) spos.line X.env = pure true := by exact sw_true rfl rfl rfl (by decide +kernel)) (hs : ∀ x, foldedSetIterable iter X.env x = pure x := by intro _; rfl) :
    PS' M W X (.Assign [.Name y py] (.ListComp elt [⟨tg, iter, ifs, 0⟩] scope pos) spos) (sOwn i (eComp (own.map (·.2)) src tgt ft fc)) := by
  obtain ⟨t, et, qt⟩ := ps_lcAny (i := i) (py := py) (spos := spos) c hi ok hg ht he hcc his hy hyl hsw hs
  exact ⟨_, et, trS_setOwn qt hc⟩
end
end

/-! ### a, b = e1, e2 -/
def PSl (M : Fr) (W : WX) (X : Cx) (e : Expr) (f : Ev → Res (Slot × Ev)) : Prop := ∃ t, PE X e t ∧ ∀ (σ : St) (G H : Hp) (ε : Ev), SR M G H σ ε → ∀ Q : VK,
  (match f ε with
    | .ok p => ∀ v G' H', SR M G' H' σ p.2 → Step G H (Own σ ε) G' H' (Own σ p.2) → NewOk M.F G' H' (Own σ p.2) p.1 v → (∀ ds q, p.1 = .ow ds → v = .ref q → H q = none) → Q v H'
    | .err c => ErrOk M W G H (Own σ ε) c
    | .stuck => False) → t σ H Q
@[reducible, simp] def slP (f : Ev → Res (D × Ev)) : Ev → Res (Slot × Ev) := fun ε => (f ε).bind fun p => .ok (.pu p.1, p.2)
@[reducible, simp] def slN (f : Ev → Res (List D × Ev)) : Ev → Res (Slot × Ev) := fun ε => (f ε).bind fun p => .ok (.ow p.1, p.2)
section
variable {M : Fr} {W : WX} {X : Cx} {k : Nat} {e a b c₀ : Expr} {st : Stmt} {rest : List Stmt} {f g : Ev → Out} {fe : Ev → Res (D × Ev)} {pos : Pos}
theorem psl_p (h : PV M W X e fe) : PSl M W X e (slP fe) := by
  obtain ⟨t, et, q⟩ := h
  refine ⟨t, et, fun σ G H ε s Q hp => q σ G H ε s Q ?_⟩
  simp only [slP] at hp
  cases e1 : fe ε with
  | stuck => rw [e1] at hp; exact hp
  | err c => rw [e1] at hp; exact hp
  | ok p =>
    rw [e1] at hp
    exact fun v G' H' s' st' r => hp v G' H' s' st' r (fun ds q z => by cases z)
theorem psl_n {fn : Ev → Res (List D × Ev)} (h : PN M W X e fn) : PSl M W X e (slN fn) := by
  obtain ⟨t, et, q⟩ := h
  refine ⟨t, et, fun σ G H ε s Q hp => q σ G H ε s Q ?_⟩
  simp only [slN] at hp
  cases e1 : fn ε with
  | stuck => rw [e1] at hp; exact hp
  | err c => rw [e1] at hp; exact hp
  | ok p =>
    rw [e1] at hp
    exact fun a vs G' H' s' st' gp hp' rl nh no => hp (.ref a) G' H' s' st' ⟨a, vs, rfl, gp, hp', rl, no⟩ (fun ds q _ z => by cases z; exact nh)
/-- what is new stays new behind a further step -/
theorem NewOk.step {G H G' H' : Hp} {σ : St} {ε ε' : Ev} {x : Slot} {v : V} (r : NewOk M.F G H (Own σ ε) x v) (s' : SR M G' H' σ ε') (st : Step G H (Own σ ε) G' H' (Own σ ε')) : NewOk M.F G' H' (Own σ ε') x v := by
  cases x with
  | em => exact r
  | pu d => exact r.mono st.gg
  | ow ds =>
    obtain ⟨p, vs, rfl, gp, hp, rl, no⟩ := r
    refine ⟨p, vs, rfl, ?_, st.hh _ _ hp (fun ps z => by cases z) no, rl.mono st.gg, fun z => ?_⟩
    · cases q : G' p with
      | none => rfl
      | some u =>
        rcases st.gn p u q with z | z | z
        · rw [gp] at z; cases z
        · rw [hp] at z; cases z
        · exact (no z).elim
    · rcases st.oo p z with y | y
      · exact no y
      · rw [hp] at y; cases y
@[reducible, simp] def sPar2 (i j : Nat) (fa fb : Ev → Res (Slot × Ev)) : Ev → Out := fun ε => (fa ε).out fun p => (fb p.2).out fun q =>
  if i < q.2.length ∧ j < q.2.length then .nx ((q.2.set i p.1).set j q.1) else .stuck
theorem ps_par2' (c : CO M W k X) {i j : Nat} {x y : Str} {px py pt : Pos} {kt k2 pt2} {fa fb : Ev → Res (Slot × Ev)} (ha : PSl M W X a fa) (hb : PSl M W X b fb) (hci : M.cp = none ∨ i ≠ 0) (hcj : M.cp = none ∨ j ≠ 0) (hij : i ≠ j)
    (hi : X.N[i]? = some x := by rfl) (hj : X.N[j]? = some y := by rfl) (hx : X.env.scope.names.lookup x = some .local := by rfl) (hy : X.env.scope.names.lookup y = some .local := by rfl)
    (h1 : starEach [a, b] X.env = (false, eval a X.env) :: starEach [b] X.env := by rfl) (h2 : starEach [b] X.env = (false, eval b X.env) :: starEach [] X.env := by rfl)
    (hw : swappedStores [.Tuple [.Name x px, .Name y py] kt pt] (.Tuple [a, b] k2 pt2) X.env = pure (some [x, y]) := by rfl)
    (hs : swapsWithSole [.Tuple [.Name x px, .Name y py] kt pt] (.Tuple [a, b] k2 pt2) pos.line X.env = pure false := by rfl) :
    PS' M W X (.Assign [.Tuple [.Name x px, .Name y py] kt pt] (.Tuple [a, b] k2 pt2) pos) (sPar2 i j fa fb) := by
  obtain ⟨ta, ea, qa⟩ := ha
  obtain ⟨tb, eb, qb⟩ := hb
  refine ⟨_, ps_par c.calm c.nd hi hj hij hx hy (L2.pa_cons ea (L2.pa_cons eb L2.pa_nil h2) h1) hw hs, fun σ G H ε s E hp => ?_⟩
  refine qa σ G H ε s _ ?_
  simp only [sPar2] at hp
  cases e1 : fa ε with
  | stuck => simp only [e1, Res.out] at hp; exact hp
  | err c => simp only [e1, Res.out] at hp; exact hp
  | ok p =>
    simp only [e1, Res.out] at hp
    intro v G1 H1 s1 st1 r1 n1
    refine qb σ G1 H1 p.2 s1 _ ?_
    cases e2 : fb p.2 with
    | stuck => simp only [e2, Res.out] at hp; exact hp
    | err c => simp only [e2, Res.out] at hp; exact ErrOk.shift s1.sub st1 hp
    | ok q =>
      simp only [e2, Res.out] at hp
      split at hp
      · rename_i hl
        intro w G2 H2 s2 st2 r2 n2
        have st := st1.trans s1.sub st2
        have r1' := r1.step s2 st2
        obtain ⟨s3, o3⟩ := s2.setNew hl.1 r1' hci
        have r2' : NewOk M.F G2 H2 (Own (σ.set i (some v)) (q.2.set i p.1)) q.1 w := by
          cases hq : q.1 with
          | em => rw [hq] at r2; exact r2
          | pu d => rw [hq] at r2; exact r2
          | ow ds =>
            rw [hq] at r2
            obtain ⟨a2, vs2, rfl, g2, h2', l2, no2⟩ := r2
            refine ⟨a2, vs2, rfl, g2, h2', l2, fun z => ?_⟩
            rcases o3 a2 z with y | ⟨⟨ds1, y⟩, y2⟩
            · exact no2 y
            · have hn2 := n2 ds a2 hq rfl
              rw [y] at r1
              obtain ⟨a1, vs1, e, _, h1', _⟩ := r1
              rw [y2] at e
              cases e
              rw [h1'] at hn2; cases hn2
        obtain ⟨s4, o4⟩ := s3.setNew (i := j) (by rw [List.length_set]; exact hl.2) r2' hcj
        refine ⟨v, w, rfl, hp _ G2 H2 s4 ⟨st.gg, st.hh, st.hs, st.gn, fun z hz => ?_⟩⟩
        rcases o4 z hz with y | ⟨⟨ds, y⟩, y2⟩
        · rcases o3 z y with y | ⟨⟨ds, y⟩, y2⟩
          · exact st.oo z y
          · exact .inr (n1 ds z y y2)
        · exact .inr (st1.hs z (n2 ds z y y2))
      · exact hp.elim
@[reducible, simp] def sPar3 (i j l : Nat) (fa fb fc : Ev → Res (Slot × Ev)) : Ev → Out := fun ε => (fa ε).out fun p => (fb p.2).out fun q => (fc q.2).out fun r =>
  if i < r.2.length ∧ j < r.2.length ∧ l < r.2.length then .nx (((r.2.set i p.1).set j q.1).set l r.1) else .stuck
theorem NewOk.set {G H : Hp} {σ σ' : St} {ε ε' : Ev} {x y : Slot} {v w : V} (r : NewOk M.F G H (Own σ ε) y w) (o : ∀ q, Own σ' ε' q → Own σ ε q ∨ ((∃ ds, x = .ow ds) ∧ v = .ref q)) (ne : ∀ ds es q, y = .ow ds → w = .ref q → x = .ow es → v = .ref q → False) : NewOk M.F G H (Own σ' ε') y w := by
  cases hy : y with
  | em => rw [hy] at r; exact r
  | pu d => rw [hy] at r; exact r
  | ow ds =>
    rw [hy] at r
    obtain ⟨a, vs, rfl, g, h, l, no⟩ := r
    refine ⟨a, vs, rfl, g, h, l, fun z => ?_⟩
    rcases o a z with q | ⟨⟨es, q⟩, q2⟩
    · exact no q
    · exact ne ds es a hy rfl q q2
theorem NewOk.there {G H : Hp} {O : Addr → Prop} {x : Slot} {v : V} (r : NewOk M.F G H O x v) {ds : List D} {q : Addr} (e : x = .ow ds) (e2 : v = .ref q) : H q ≠ none := by
  rw [e] at r
  obtain ⟨a, vs, e3, _, h, _⟩ := r
  rw [e2] at e3
  cases e3
  rw [h]
  exact fun z => by cases z
theorem ps_par3' (c : CO M W k X) {i j l : Nat} {x y z : Str} {px py pz pt : Pos} {kt k2 pt2} {fa fb fc : Ev → Res (Slot × Ev)} (ha : PSl M W X a fa) (hb : PSl M W X b fb) (hcx : PSl M W X c₀ fc) (hci : M.cp = none ∨ i ≠ 0) (hcj : M.cp = none ∨ j ≠ 0) (hcl : M.cp = none ∨ l ≠ 0) (hij : i ≠ j) (hil : i ≠ l) (hjl : j ≠ l)
    (hi : X.N[i]? = some x := by rfl) (hj : X.N[j]? = some y := by rfl) (hl : X.N[l]? = some z := by rfl) (hx : X.env.scope.names.lookup x = some .local := by rfl) (hy : X.env.scope.names.lookup y = some .local := by rfl) (hz : X.env.scope.names.lookup z = some .local := by rfl)
    (h1 : starEach [a, b, c₀] X.env = (false, eval a X.env) :: starEach [b, c₀] X.env := by rfl) (h2 : starEach [b, c₀] X.env = (false, eval b X.env) :: starEach [c₀] X.env := by rfl) (h3 : starEach [c₀] X.env = (false, eval c₀ X.env) :: starEach [] X.env := by rfl)
    (hw : swappedStores [.Tuple [.Name x px, .Name y py, .Name z pz] kt pt] (.Tuple [a, b, c₀] k2 pt2) X.env = pure (some [x, y, z]) := by rfl)
    (hs : swapsWithSole [.Tuple [.Name x px, .Name y py, .Name z pz] kt pt] (.Tuple [a, b, c₀] k2 pt2) pos.line X.env = pure false := by rfl) :
    PS' M W X (.Assign [.Tuple [.Name x px, .Name y py, .Name z pz] kt pt] (.Tuple [a, b, c₀] k2 pt2) pos) (sPar3 i j l fa fb fc) := by
  obtain ⟨ta, ea, qa⟩ := ha
  obtain ⟨tb, eb, qb⟩ := hb
  obtain ⟨tc, ec, qc⟩ := hcx
  refine ⟨_, ps_par3 c.calm c.nd hi hj hl hij hil hjl hx hy hz (L2.pa_cons ea (L2.pa_cons eb (L2.pa_cons ec L2.pa_nil h3) h2) h1) hw hs, fun σ G H ε s E hp => ?_⟩
  refine qa σ G H ε s _ ?_
  simp only [sPar3] at hp
  cases e1 : fa ε with
  | stuck => simp only [e1, Res.out] at hp; exact hp
  | err c => simp only [e1, Res.out] at hp; exact hp
  | ok p =>
    simp only [e1, Res.out] at hp
    intro v G1 H1 s1 st1 r1 n1
    refine qb σ G1 H1 p.2 s1 _ ?_
    cases e2 : fb p.2 with
    | stuck => simp only [e2, Res.out] at hp; exact hp
    | err c => simp only [e2, Res.out] at hp; exact ErrOk.shift s1.sub st1 hp
    | ok q =>
      simp only [e2, Res.out] at hp
      intro w G2 H2 s2 st2 r2 n2
      have st12 := st1.trans s1.sub st2
      refine qc σ G2 H2 q.2 s2 _ ?_
      cases e3 : fc q.2 with
      | stuck => simp only [e3, Res.out] at hp; exact hp
      | err c => simp only [e3, Res.out] at hp; exact ErrOk.shift s2.sub st12 hp
      | ok r =>
        simp only [e3, Res.out] at hp
        split at hp
        · rename_i hl
          intro u G3 H3 s3 st3 r3 n3
          have st := st12.trans s2.sub st3
          have r1a := r1.step s2 st2
          have r1' := r1a.step s3 st3
          have r2' := r2.step s3 st3
          obtain ⟨sA, oA⟩ := s3.setNew hl.1 r1' hci
          have r2A := r2'.set oA (fun ds es z h1 h2 h3 h4 => r1.there h3 h4 (n2 ds z h1 h2))
          have r3A := r3.set oA (fun ds es z h1 h2 h3 h4 => r1a.there h3 h4 (n3 ds z h1 h2))
          obtain ⟨sB, oB⟩ := sA.setNew (i := j) (by rw [List.length_set]; exact hl.2.1) r2A hcj
          have r3B := r3A.set oB (fun ds es z h1 h2 h3 h4 => r2.there h3 h4 (n3 ds z h1 h2))
          obtain ⟨sC, oC⟩ := sB.setNew (i := l) (by rw [List.length_set, List.length_set]; exact hl.2.2) r3B hcl
          refine ⟨v, w, u, rfl, hp _ G3 H3 sC ⟨st.gg, st.hh, st.hs, st.gn, fun z hz => ?_⟩⟩
          rcases oC z hz with y | ⟨⟨ds, y⟩, y2⟩
          · rcases oB z y with y | ⟨⟨ds, y⟩, y2⟩
            · rcases oA z y with y | ⟨⟨ds, y⟩, y2⟩
              · exact st.oo z y
              · exact .inr (n1 ds z y y2)
            · exact .inr (st1.hs z (n2 ds z y y2))
          · exact .inr (st12.hs z (n3 ds z y y2))
        · exact hp.elim
end
end PL
/-! PL, part i: owned lists written; loops; raise. -/
namespace PL
open PySem PySem.Spec PyProof.Rows L2

/-- an owned list has a new content -/
theorem SR.updOw {M : Fr} {G H : Hp} {σ : St} {ε : Ev} (s : SR M G H σ ε) {i : Nat} {ds es : List D} {p : Addr} {ws : List V} (e : ε[i]? = some (.ow ds)) (eσ : σ[i]? = some (some (.ref p))) (r : RpL M.F G es ws) :
    SR M G (upd H p (.lst ws)) σ (ε.set i (.ow es)) ∧ Step G H (Own σ ε) G (upd H p (.lst ws)) (Own σ (ε.set i (.ow es))) := by
  obtain ⟨p', vs, eσ', gp, hp, _⟩ := s.ow e
  rw [eσ] at eσ'
  cases eσ'
  have hi : i < ε.length := (List.getElem?_eq_some_iff.mp e).1
  have gne : ∀ q o, G q = some o → q ≠ p := fun q o h z => by rw [z, gp] at h; cases h
  have owp : Own σ ε p := ⟨i, ds, e, eσ⟩
  have old : ∀ j, j ≠ i → (ε.set i (.ow es))[j]? = ε[j]? := fun j hj => List.getElem?_set_ne (Ne.symm hj)
  have ownB : ∀ (j : Nat) (ds' : List D), (ε.set i (Slot.ow es))[j]? = some (Slot.ow ds') → ∃ ds'' : List D, ε[j]? = some (Slot.ow ds'') := fun j ds' e' => by
    by_cases hj : j = i
    · subst hj; exact ⟨ds, e⟩
    · rw [old j hj] at e'; exact ⟨ds', e'⟩
  have own : ∀ q, Own σ (ε.set i (.ow es)) q → Own σ ε q := fun q ⟨j, ds', e1, e2⟩ => by
    obtain ⟨ds'', e3⟩ := ownB j ds' e1
    exact ⟨j, ds'', e3, e2⟩
  refine ⟨⟨fun q o h => by rw [upd_ne (gne q o h)]; exact s.sub q o h, s.ntb, ?_, by rw [List.length_set]; exact s.len, fun j x o e1 e2 => ?_, fun j l d1 d2 q e1 e2 e3 e4 => ?_, fun q hq => ?_⟩, ⟨fun _ _ h => h, fun q o h _ nn => ?_, fun q h => ?_, fun _ _ h => .inl h, fun q z => .inl (own q z)⟩⟩
  · intro t ht
    obtain ⟨ps, h1, h2, h3⟩ := s.tabs t ht
    refine ⟨ps, ?_, h2, fun pos cv hc => ?_⟩
    · rw [upd_ne (fun z => by rw [z, hp] at h1; cases h1)]; exact h1
    · obtain ⟨cc, e1, e2⟩ := h3 pos cv hc
      refine ⟨cc, e1, ?_⟩
      rw [upd_ne (fun z => by rw [z, hp] at e2; unfold LamX.CodeO at e2; cases e2)]; exact e2
  · by_cases hj : j = i
    · subst hj
      rw [List.getElem?_set_self hi] at e1
      rw [eσ] at e2
      cases e1
      cases e2
      exact ⟨p, ws, rfl, gp, upd_same, r⟩
    · rw [old j hj] at e1
      have h := s.slots j x o e1 e2
      cases x with
      | em => trivial
      | pu d => exact h
      | ow d' =>
        obtain ⟨q, us, eq, n, hq, rr⟩ := h
        refine ⟨q, us, eq, n, ?_, rr⟩
        rw [upd_ne (fun z => hj (s.inj j i d' ds p e1 e (by rw [e2, eq, z]) eσ))]
        exact hq
  · obtain ⟨d1', f1⟩ := ownB j d1 e1
    obtain ⟨d2', f2⟩ := ownB l d2 e2
    exact s.inj j l d1' d2' q f1 f2 e3 e4
  · obtain ⟨a, d', b⟩ := s.cup q hq
    refine ⟨a, ?_⟩
    by_cases h0 : 0 = i
    · rw [← h0, List.getElem?_set_self (by omega)]; exact ⟨es, rfl⟩
    · rw [old 0 h0]; exact ⟨d', b⟩
  · rw [upd_ne (fun z => nn (by rw [z]; exact owp))]; exact h
  · unfold upd at h
    split at h
    · cases h
    · exact h

@[reducible, simp] def getOw (ε : Ev) (i : Nat) : Res (List D) := match ε[i]? with
  | some (.ow ds) => .ok ds
  | _ => .stuck
theorem getOw_ok {ε : Ev} {i : Nat} {ds : List D} (h : getOw ε i = .ok ds) : ε[i]? = some (.ow ds) := by
  unfold getOw at h
  split at h
  · rename_i e; cases h; exact e
  · cases h
theorem getOw_err {ε : Ev} {i c : Nat} : getOw ε i ≠ .err c := by
  unfold getOw
  split <;> exact fun h => by cases h
@[reducible, simp] def sAppend (i : Nat) (f : Ev → Res (D × Ev)) : Ev → Out := fun ε => (getOw ε i).out fun _ => (f ε).out fun p => (getOw p.2 i).out fun ds => if ds.length ≤ 1000000 then .nx (p.2.set i (.ow (ds ++ [p.1]))) else .stuck
@[reducible] def sSetIx (i : Nat) (fe fi : Ev → Res (D × Ev)) : Ev → Out := fun ε => (fe ε).out fun p => (getOw p.2 i).out fun _ => (fi p.2).out fun q => (getOw q.2 i).out fun ds =>
  match q.1 with
  | .int k => match ixN ds.length k with
    | some j => .nx (q.2.set i (.ow (ds.set j p.1)))
    | none => .stuck
  | _ => .stuck
@[reducible] def sPop (i : Nat) : Ev → Out := fun ε => (getOw ε i).out fun ds => match ds[ds.length - 1]? with
  | some _ => .nx (ε.set i (.ow ds.dropLast))
  | none => .stuck
theorem RpL.dropLast {F : Fx} {G : Hp} {ds : List D} {vs : List V} (l : RpL F G ds vs) : RpL F G ds.dropLast vs.dropLast := by
  rw [List.dropLast_eq_take, List.dropLast_eq_take, l.length]
  exact l.take _
theorem ixN_lt {n : Nat} {k : Int} {j : Nat} (h : ixN n k = some j) : j < n := (ixN_seq h).2.1
section
variable {M : Fr} {W : WX} {X : Cx} {k : Nat} {e : Expr} {st : Stmt} {rest : List Stmt} {f g : Ev → Out} {fe fi : Ev → Res (D × Ev)} {pos : Pos}
theorem ps_append' {i : Nat} {x : Str} {px p1 p2 : Pos} {g0 : Ev → Res (D × Ev)} (he : PV M W X e g0) (hN : X.N[i]? = some x := by rfl) (hv : Vis X.env.scope x := by first | exact Or.inl rfl | exact Or.inr (Or.inl rfl) | exact Or.inr (Or.inr rfl)) (hd : (x == ("__debug__" : Str)) = false := by decide) (hcd : (x == ("__classdict__" : Str)) = false := by decide)
    (hs : swapsWith (.Call (.Attribute (.Name x px) "append" p1) [e] [] p2) none pos.line X.env = pure false := by rfl)
    (hline : (p1.endLine == p2.line) = true := by rfl)
    (h : ∀ {to : TE} {t : TA}, PE X (.Name x px) to → PA X [e] t → PE X (.Call (.Attribute (.Name x px) "append" p1) [e] [] p2) (tBM X.K "list" rAppend to t) := by exact fun ho ha => pe_bm PySem.F.plainAttrs_list PySem.F.slot_list_append PySem.F.type_list_append mt_append ho ha)
    (h1 : starEach [e] X.env = (false, eval e X.env) :: starEach [] X.env := by rfl) :
    PS' M W X (.Expr (.Call (.Attribute (.Name x px) "append" p1) [e] [] p2) pos) (sAppend i g0) := by
  obtain ⟨t, et, qt⟩ := he
  refine ⟨_, ps_expr (h (pe_var hN hv hd hcd) (L2.pa_cons et L2.pa_nil h1)) hs, fun σ G H ε s E hp => ?_⟩
  simp only [sAppend] at hp
  cases e0 : getOw ε i with
  | stuck => simp only [e0, Res.out] at hp; exact hp.elim
  | err c => exact absurd e0 getOw_err
  | ok ds0 =>
    simp only [e0, Res.out] at hp
    obtain ⟨a, vs0, ea, ga, ha, _⟩ := s.ow (getOw_ok e0)
    refine ⟨.ref a, ea, .inl ⟨rfl, vs0, .inl (.inl ha)⟩, ?_⟩
    refine qt σ G H ε s _ ?_
    cases e1 : g0 ε with
    | stuck => simp only [e1, Res.out] at hp; exact hp
    | err c => simp only [e1, Res.out] at hp; exact hp
    | ok p =>
      simp only [e1, Res.out] at hp
      intro v G1 H1 s1 st1 rv
      cases e2 : getOw p.2 i with
      | stuck => simp only [e2, Res.out] at hp; exact hp.elim
      | err c => exact absurd e2 getOw_err
      | ok ds =>
        simp only [e2, Res.out] at hp
        split at hp
        · rename_i hz
          obtain ⟨a', vs, ea', ga', ha', l⟩ := s1.ow (getOw_ok e2)
          rw [ea] at ea'
          cases ea'
          obtain ⟨s2, st2⟩ := s1.updOw (getOw_ok e2) ea (l.append (RpL.cons rv RpL.nil))
          refine ⟨a, vs, v, rfl, rfl, ha', ?_, hp _ G1 _ s2 (st1.trans s1.sub st2)⟩
          rw [← l.length]
          have : (1000000 : Nat) < sizeLine := by rw [sizeLine_eq]; decide
          omega
        · exact hp.elim
theorem ps_setIx' {i : Nat} {x : Str} {b : Expr} {px p1 : Pos} (he : PV M W X e fe) (hb : PV M W X b fi) (hN : X.N[i]? = some x := by rfl) (hv : Vis X.env.scope x := by first | exact Or.inl rfl | exact Or.inr (Or.inl rfl) | exact Or.inr (Or.inr rfl)) (hd : (x == ("__debug__" : Str)) = false := by decide) (hcd : (x == ("__classdict__" : Str)) = false := by decide)
    (hs : swapsWithSole [.Subscript (.Name x px) b p1] e pos.line X.env = pure false := by rfl) (hw : swappedStores [.Subscript (.Name x px) b p1] e X.env = pure none := by rfl)
    (h1 : (assignEach [.Subscript (.Name x px) b p1] X.env).map (·.2) = [assign (.Subscript (.Name x px) b p1) X.env] := by rfl)
    (ha : ∀ v, assign (.Subscript (.Name x px) b p1) X.env v = (do
      let ov ← holding [v] (eval (.Name x px) X.env)
      let iv ← holding [v, ov] (eval b X.env)
      standAt p1
      holding [v, ov, iv] (setItem ov iv v)
      release [v, ov, iv] []) := by intro _; rfl) :
    PS' M W X (.Assign [.Subscript (.Name x px) b p1] e pos) (sSetIx i fe fi) := by
  obtain ⟨t, et, qt⟩ := he
  obtain ⟨u, eu, qu⟩ := hb
  refine ⟨_, ps_asg et (pg_sub (pe_var hN hv hd hcd) eu set_list ha) hs hw h1, fun σ G H ε s E hp => ?_⟩
  simp only [sSetIx] at hp
  refine qt σ G H ε s _ ?_
  cases e1 : fe ε with
  | stuck => simp only [e1, Res.out] at hp; exact hp
  | err c => simp only [e1, Res.out] at hp; exact hp
  | ok p =>
    simp only [e1, Res.out] at hp
    intro v G1 H1 s1 st1 rv
    cases e0 : getOw p.2 i with
    | stuck => simp only [e0, Res.out] at hp; exact hp.elim
    | err c => exact absurd e0 getOw_err
    | ok ds0 =>
      simp only [e0, Res.out] at hp
      obtain ⟨a, vs0, ea, ga, ha0, _⟩ := s1.ow (getOw_ok e0)
      refine ⟨.ref a, ea, ?_⟩
      refine qu σ G1 H1 p.2 s1 _ ?_
      have hp1 := hp.shift s1 st1
      cases e2 : fi p.2 with
      | stuck => simp only [e2, Res.out] at hp1; exact hp1
      | err c => simp only [e2, Res.out] at hp1; exact hp1
      | ok q =>
        simp only [e2, Res.out] at hp1
        intro w G2 H2 s2 st2 rw'
        cases e3 : getOw q.2 i with
        | stuck => simp only [e3, Res.out] at hp1; exact hp1.elim
        | err c => exact absurd e3 getOw_err
        | ok ds =>
          simp only [e3, Res.out] at hp1
          split at hp1
          · rename_i kk ek
            rw [ek, rp_int] at rw'
            subst rw'
            split at hp1
            · rename_i j ej
              obtain ⟨a', vs, ea', ga', ha', l⟩ := s2.ow (getOw_ok e3)
              rw [ea] at ea'
              cases ea'
              obtain ⟨s3, st3⟩ := s2.updOw (getOw_ok e3) ea (l.set (rv.mono st2.gg) j)
              exact ⟨a, vs, kk, j, rfl, rfl, ha', by rw [← l.length]; exact ej, hp1 _ G2 _ s3 (st2.trans s2.sub st3)⟩
            · exact hp1.elim
          · exact hp1.elim
theorem ps_pop' {i : Nat} {x : Str} {px p1 p2 : Pos} (hN : X.N[i]? = some x := by rfl) (hv : Vis X.env.scope x := by first | exact Or.inl rfl | exact Or.inr (Or.inl rfl) | exact Or.inr (Or.inr rfl)) (hd : (x == ("__debug__" : Str)) = false := by decide) (hcd : (x == ("__classdict__" : Str)) = false := by decide)
    (hs : swapsWith (.Call (.Attribute (.Name x px) "pop" p1) [] [] p2) none pos.line X.env = pure false := by rfl)
    (h : ∀ {to : TE}, PE X (.Name x px) to → PE X (.Call (.Attribute (.Name x px) "pop" p1) [] [] p2) (tBM0 X.K "list" rPop to) := by exact fun ho => pe_bm0 PySem.F.plainAttrs_list PySem.F.slot_list_pop PySem.F.type_list_pop mt_pop ho) :
    PS' M W X (.Expr (.Call (.Attribute (.Name x px) "pop" p1) [] [] p2) pos) (sPop i) := by
  refine ⟨_, ps_expr (h (pe_var hN hv hd hcd)) hs, fun σ G H ε s E hp => ?_⟩
  simp only [sPop] at hp
  cases e0 : getOw ε i with
  | stuck => simp only [e0, Res.out] at hp; exact hp.elim
  | err c => exact absurd e0 getOw_err
  | ok ds =>
    simp only [e0, Res.out] at hp
    obtain ⟨a, vs, ea, ga, ha, l⟩ := s.ow (getOw_ok e0)
    split at hp
    · rename_i d ed
      obtain ⟨v, ev, rv⟩ := l.get ed
      obtain ⟨s2, st2⟩ := s.updOw (getOw_ok e0) ea l.dropLast
      exact ⟨.ref a, ea, .inl ⟨rfl, vs, .inl (.inl ha)⟩, a, vs, v, rfl, rfl, ha, by rw [← l.length]; exact ev, hp _ G _ s2 st2⟩
    · exact hp.elim

/-! ### for -/
def forF (tgt : D → Ev → Res Ev) (body : Ev → Out) : List D → Ev → Out
  | [], ε => .nx ε
  | x :: xs, ε => match (tgt x ε).ne with
    | .ok ε1 => match body ε1 with
      | .nx ε2 => forF tgt body xs ε2
      | .ct ε2 => forF tgt body xs ε2
      | .bk ε2 => .nx ε2
      | r => r
    | _ => .stuck
@[reducible] def sFor (src : Ev → Res (List D × Ev)) (tgt : D → Ev → Res Ev) (body : Ev → Out) : Ev → Out := fun ε => (src ε).out fun p => forF tgt body p.1 p.2
theorem ps_for' (c : CO M W k X) {tg iter : Expr} {body : List Stmt} {src : Ev → Res (List D × Ev)} {tgt : D → Ev → Res Ev} {is : List Nat} {fb : Ev → Out} (hi : PIt M W X tg iter src) (hg : PTg M X tg tgt is) (hb : PSs' M W X body fb) (hs : ∀ x, foldedSetIterable iter X.env x = pure x := by intro _; rfl) :
    PS' M W X (.For tg iter body [] pos) (sFor src tgt fb) := by
  obtain ⟨wi, ei, qi⟩ := hi
  obtain ⟨gt, eg, qg⟩ := hg
  obtain ⟨tb, eb, qb⟩ := hb
  refine ⟨_, ps_for c.po c.calm ei eg eb hs, fun σ0 G0 H0 ε0 s0 E hp => ?_⟩
  refine qi σ0 G0 H0 ε0 s0 _ ?_
  simp only [sFor] at hp
  cases e0 : src ε0 with
  | stuck => simp only [e0, Res.out] at hp; exact hp
  | err c => simp only [e0, Res.out] at hp; exact hp
  | ok p =>
    simp only [e0, Res.out] at hp
    intro J G1 H1 s1 st1 ij
    have hp1 := hp.shift s1 st1
    refine ⟨fun i m σ H => ∃ G ε, m = p.1.length - i ∧ i ≤ p.1.length ∧ SR M G H σ ε ∧ Step G1 H1 (Own σ0 p.2) G H (Own σ ε) ∧ forF tgt fb (p.1.drop i) ε = forF tgt fb p.1 p.2,
      ⟨p.1.length, G1, p.2, by simp, Nat.zero_le _, s1, Step.refl .., by rw [List.drop_zero]⟩, ?_⟩
    rintro i m σ H ⟨G, ε, hm, hi, s, st, eq⟩
    have it := ij i G H s.hg st.gg
    by_cases hlt : i < p.1.length
    case neg =>
      have e : i = p.1.length := by omega
      refine .inl ⟨it.2 (by omega), ?_⟩
      rw [e, List.drop_length] at eq
      rw [← eq] at hp1
      exact hp1 σ G H s st
    case pos =>
      obtain ⟨go, yld⟩ := it.1 p.1[i] (List.getElem?_eq_getElem hlt)
      have hd : p.1.drop i = p.1[i] :: p.1.drop (i + 1) := List.drop_eq_getElem_cons hlt
      rw [hd] at eq
      refine .inr ⟨go, fun σ' H' => ∃ G ε, i + 1 ≤ p.1.length ∧ SR M G H' σ' ε ∧ Step G1 H1 (Own σ0 p.2) G H' (Own σ' ε) ∧ forF tgt fb (p.1.drop (i + 1)) ε = forF tgt fb p.1 p.2, fun σ' H' ⟨G', ε', h1, h2, h3, h4⟩ => ⟨p.1.length - (i + 1), by omega, G', ε', rfl, h1, h2, h3, h4⟩, fun x H' y => ?_⟩
      obtain ⟨G3, gr, hg3, rx⟩ := yld x H' y
      have s3 : SR M G3 H' σ ε := s.grow gr hg3.sub hg3.ntb hg3.tabs
      have st3 := st.trans s.sub (gr.step (Own σ ε))
      simp only [forF] at eq
      cases e1 : tgt p.1[i] ε with
      | stuck => simp only [e1, Res.ne] at eq; rw [← eq] at hp1; exact hp1.elim
      | err c => simp only [e1, Res.ne] at eq; rw [← eq] at hp1; exact hp1.elim
      | ok ε1 =>
        simp only [e1, Res.ne] at eq
        refine qg p.1[i] x σ G3 H' ε ε1 s3 rx e1 _ fun σ4 s4 o4 _ _ => ?_
        have st4 : Step G1 H1 (Own σ0 p.2) G3 H' (Own σ4 ε1) := st3.trans s3.sub ⟨fun _ _ h => h, fun _ _ h _ _ => h, fun _ h => h, fun _ _ h => .inl h, fun q z => .inl (o4 q z)⟩
        refine qb σ4 G3 H' ε1 s4 _ ?_
        cases e2 : fb ε1 with
        | nx ε2 =>
          rw [e2] at eq
          exact fun σ' G' H'' s' st' => ⟨G', ε2, by omega, s', st4.trans s4.sub st', eq⟩
        | ct ε2 =>
          rw [e2] at eq
          exact fun σ' G' H'' s' st' => ⟨G', ε2, by omega, s', st4.trans s4.sub st', eq⟩
        | bk ε2 =>
          rw [e2] at eq
          rw [← eq] at hp1
          exact fun σ' G' H'' s' st' => hp1 σ' G' H'' s' (st4.trans s4.sub st')
        | rt d ε2 =>
          rw [e2] at eq
          rw [← eq] at hp1
          exact fun v σ' G' H'' s' st' r => hp1 v σ' G' H'' s' (st4.trans s4.sub st') r
        | err c =>
          rw [e2] at eq
          rw [← eq] at hp1
          exact ErrOk.shift s4.sub st4 hp1
        | stuck =>
          rw [e2] at eq
          rw [← eq] at hp1
          exact hp1.elim

/-! ### while -/
def whileF (c : Ev → Res (Bool × Ev)) (body : Ev → Out) : Nat → Ev → Out
  | 0, _ => .stuck
  | n + 1, ε => (c ε).out fun p => if p.1 then (match body p.2 with
      | .nx ε2 => whileF c body n ε2
      | .ct ε2 => whileF c body n ε2
      | .bk ε2 => .nx ε2
      | r => r) else .nx p.2
theorem ps_while' (co : CO M W k X) (n : Nat) {c : Expr} {body : List Stmt} {fc : Ev → Res (Bool × Ev)} {fb : Ev → Out} (hc : PB M W X c fc) (hb : PSs' M W X body fb) : PS' M W X (.While c body [] pos) (whileF fc fb n) := by
  obtain ⟨tc, ec, qc⟩ := hc
  obtain ⟨tb, eb, qb⟩ := hb
  refine ⟨_, ps_while co.po ec eb, fun σ0 G1 H1 ε0 s1 E hp1 => ?_⟩
  refine ⟨fun m σ H => ∃ G ε, SR M G H σ ε ∧ Step G1 H1 (Own σ0 ε0) G H (Own σ ε) ∧ whileF fc fb m ε = whileF fc fb n ε0, ⟨n, G1, ε0, s1, Step.refl .., rfl⟩, ?_⟩
  rintro m σ H ⟨G, ε, s, st, eq⟩
  cases m with
  | zero =>
    simp only [whileF] at eq
    rw [← eq] at hp1; exact hp1.elim
  | succ m =>
    simp only [whileF] at eq
    refine qc σ G H ε s _ ?_
    cases e1 : fc ε with
    | stuck => simp only [e1, Res.out] at eq; rw [← eq] at hp1; exact hp1.elim
    | err c => simp only [e1, Res.out] at eq; rw [← eq] at hp1; exact ErrOk.shift s.sub st hp1
    | ok p =>
      simp only [e1, Res.out] at eq
      intro b G2 H2 s2 st2 rb
      simp only [RB] at rb
      subst rb
      have st12 := st.trans s.sub st2
      cases hb : p.1 with
      | false =>
        rw [hb, if_neg Bool.false_ne_true] at eq
        rw [if_neg Bool.false_ne_true]
        rw [← eq] at hp1
        exact hp1 σ G2 H2 s2 st12
      | true =>
        rw [hb, if_pos rfl] at eq
        rw [if_pos rfl]
        refine ⟨fun σ' H' => ∃ G ε, SR M G H' σ' ε ∧ Step G1 H1 (Own σ0 ε0) G H' (Own σ' ε) ∧ whileF fc fb m ε = whileF fc fb n ε0, fun σ' H' h => ⟨m, Nat.lt_succ_self m, h⟩, ?_⟩
        refine qb σ G2 H2 p.2 s2 _ ?_
        cases e2 : fb p.2 with
        | nx ε2 =>
          rw [e2] at eq
          exact fun σ' G' H'' s' st' => ⟨G', ε2, s', st12.trans s2.sub st', eq⟩
        | ct ε2 =>
          rw [e2] at eq
          exact fun σ' G' H'' s' st' => ⟨G', ε2, s', st12.trans s2.sub st', eq⟩
        | bk ε2 =>
          rw [e2] at eq
          rw [← eq] at hp1
          exact fun σ' G' H'' s' st' => hp1 σ' G' H'' s' (st12.trans s2.sub st')
        | rt d ε2 =>
          rw [e2] at eq
          rw [← eq] at hp1
          exact fun v σ' G' H'' s' st' r => hp1 v σ' G' H'' s' (st12.trans s2.sub st') r
        | err c =>
          rw [e2] at eq
          rw [← eq] at hp1
          exact ErrOk.shift s2.sub st12 hp1
        | stuck =>
          rw [e2] at eq
          rw [← eq] at hp1
          exact hp1.elim

/-! ### raise X('..') -/
/-- what the top has of an own class of errors -/
structure ErrC (K : PySem.W.Frag) (mg : Str → Option Value) (x : Str) (C : Addr) : Prop where
  gC : mg x = some (.ref C)
  ex : PySem.W.excIn K C [.type "ValueError", .type "Exception", .type "BaseException", .type "object"] "ValueError.__new__" = true
  kC : PySem.W.keepIn K (.ref C) = true
  bC : PySem.W.subIn K (.ref C) (.type "BaseException") = some true
  tC : PySem.W.typeIn K (.ref C) = some (.type "type")
theorem ps_raise' (c : CO M W k X) {x m : Str} {ci : Nat} {j : Nat} {p p2 p3 : Pos} (h : ErrC X.K X.mg x (M.F.ca ci)) (hg : Gl X x := by rfl) (hdb : (x == ("__debug__" : Str)) = false := by decide) :
    PS' M W X (.Raise (some (.Call (.Name x p) [.Constant (.str m) j p2] [] p3)) none pos) (fun _ => .err ci) := by
  refine ⟨_, L2N.ps_raise c.calm c.tk (L2N.pmk_own PySem.F.excBase_ValueError h.ex h.gC h.kC (raises_own h.bC h.tC) hg hdb), fun σ G H ε s E hp => ?_⟩
  exact hp σ G H ε s (Step.refl ..)
end
end PL
/-! PL, part j: defs and their calls. -/
namespace PL
open PySem PySem.Spec PyProof.Rows L2

def CallPost (F : Fx) (G H : Hp) (r : Res D) (Q : VK) (E : XK) : Prop :=
  match r with
  | .ok d => ∀ v G' H', Grow G H G' H' → HG F G' H' → Rp F G' d v → Q v H'
  | .err c => ∀ G' H', Grow G H G' H' → HG F G' H' → E (.ref (F.ca c)) none H'
  | .stuck => False
/-- the promise of a def whose arguments are known values -/
def SpP (F : Fx) (n : Nat) (g : List D → Res D) : Sp := fun vs H Q E => ∃ (ds : List D) (G : Hp), ds.length = n ∧ HG F G H ∧ RpL F G ds vs ∧ CallPost F G H (g ds) Q E
/-- .. whose first argument is a list that it may change -/
def SpC (F : Fx) (n : Nat) (g : List D → List D → Res (D × List D)) : Sp := fun vs H Q E => ∃ (p : Addr) (ws : List V) (cs ds : List D) (rest : List V) (G : Hp), vs = .ref p :: rest ∧ ds.length = n ∧ HG F G H ∧ G p = none ∧ H p = some (.lst ws) ∧
  RpL F G cs ws ∧ RpL F G ds rest ∧ match g cs ds with
    | .ok r => ∀ v G' H' ws', Step G H (· = p) G' H' (· = p) → HG F G' H' → G' p = none → H' p = some (.lst ws') → RpL F G' r.2 ws' → Rp F G' r.1 v → Q v H'
    | _ => False

structure DOk (F : Fx) (P : Program) (w : World) (K : PySem.W.Frag) (mg : Str → Option Value) (base : Heap) (x : Str) (k n : Nat) (sp : Sp) : Prop where
  ex : ∃ (f : Addr) (fd : FuncData) (ps : List Str), FnOk P w K mg base (L2N.CX P w) k f fd ps sp ∧ mg x = some (.ref f) ∧ PySem.W.keepIn K (.ref f) = true ∧ Binds K fd ps []

section
variable {M : Fr} {W : WX} {X : Cx} {k : Nat} {e : Expr} {es : List Expr} {pos : Pos}
/-- f(e, ..) of a def of the text -/
theorem pv_call (c : CO M W k X) {x : Str} {k' n : Nat} {g : List D → Res D} {p : Pos} {fs : Ev → Res (List D × Ev)} (d : DOk M.F X.prog X.w X.K X.mg X.base x k' n (SpP M.F n g)) (hk : k' ≤ k) (ha : PA' M W X (e :: es) fs) (hn : (e :: es).length = n := by rfl) (hg : Gl X x := by rfl) (hdb : (x == ("__debug__" : Str)) = false := by decide)
    (he : starEach (e :: es) X.env = (false, eval e X.env) :: starEach es X.env := by rfl) (hpl : (backTo pos (starEach es X.env)).any (·.1) = false := by rfl) :
    PV M W X (.Call (.Name x p) (e :: es) [] pos) (eCB g fs) := by
  obtain ⟨f, fd, ps, F, gm, kp, b⟩ := d.ex
  obtain ⟨⟨t, et, qt⟩, hl⟩ := ha
  refine ⟨_, pe_callS F (c.hr.mono hk) hg gm kp b (fun σ => L2N.passAt c.tk σ) et hdb he hpl, fun σ G H ε s Q hp => ?_⟩
  refine qt σ G H ε s _ ?_
  simp only [eCB] at hp
  cases e1 : fs ε with
  | stuck => rw [e1] at hp; exact hp
  | err c => rw [e1] at hp; exact hp
  | ok q =>
    rw [e1] at hp
    intro vs G1 H1 s1 st1 rs
    have hp1 : Post M W σ G1 H1 q.2 (Rp M.F) ((g q.1).bind fun d => .ok (d, q.2)) Q := Post.shift s1 st1 hp
    refine ⟨q.1, G1, by rw [hl _ _ e1]; exact hn, s1.hg, rs, ?_⟩
    cases e2 : g q.1 with
    | stuck => rw [e2] at hp1; exact hp1
    | err cc =>
      rw [e2] at hp1
      exact fun G' H' gr hg' => hp1 σ G' H' q.2 (s1.grow gr hg'.sub hg'.ntb hg'.tabs) (gr.step _)
    | ok d =>
      rw [e2] at hp1
      exact fun v G' H' gr hg' r => hp1 v G' H' (s1.grow gr hg'.sub hg'.ntb hg'.tabs) (gr.step _) r

/-- f(cup, e, ..), cup a list of one's own -/
@[reducible] def eCallC (i : Nat) (g : List D → List D → Res (D × List D)) (fs : Ev → Res (List D × Ev)) : Ev → Res (D × Ev) := fun ε =>
  (getOw ε i).bind fun _ => (fs ε).bind fun p => (getOw p.2 i).bind fun cs => (g cs p.1).ne.bind fun r => .ok (r.1, p.2.set i (.ow r.2))
theorem pv_callC (c : CO M W k X) (i : Nat) {x y : Str} {k' n : Nat} {g : List D → List D → Res (D × List D)} {p py : Pos} {fs : Ev → Res (List D × Ev)} (d : DOk M.F X.prog X.w X.K X.mg X.base x k' (n + 1) (SpC M.F n g)) (hk : k' ≤ k) (ha : PA' M W X es fs) (hn : es.length = n := by rfl)
    (hN : X.N[i]? = some y := by rfl) (hv : Vis X.env.scope y := by first | exact Or.inl rfl | exact Or.inr (Or.inl rfl) | exact Or.inr (Or.inr rfl)) (hd : (y == ("__debug__" : Str)) = false := by decide) (hcd : (y == ("__classdict__" : Str)) = false := by decide)
    (hg : Gl X x := by rfl) (hdb : (x == ("__debug__" : Str)) = false := by decide)
    (he : starEach (.Name y py :: es) X.env = (false, eval (.Name y py) X.env) :: starEach es X.env := by rfl) (hpl : (backTo pos (starEach es X.env)).any (·.1) = false := by rfl) :
    PV M W X (.Call (.Name x p) (.Name y py :: es) [] pos) (eCallC i g fs) := by
  obtain ⟨f, fd, ps, F, gm, kp, b⟩ := d.ex
  obtain ⟨⟨t, et, qt⟩, hl⟩ := ha
  refine ⟨_, pe_callS F (c.hr.mono hk) hg gm kp b (fun σ => L2N.passAt c.tk σ) (L2.pa_cons (pe_var (i := i) hN hv hd hcd) et he) hdb he hpl, fun σ G H ε s Q hp => ?_⟩
  simp only [eCallC] at hp
  cases e0 : getOw ε i with
  | stuck => rw [e0] at hp; exact hp.elim
  | err c => exact absurd e0 getOw_err
  | ok ds0 =>
    rw [e0] at hp
    simp only [Res.bind_ok] at hp
    obtain ⟨a, vs0, ea, ga, ha0, _⟩ := s.ow (getOw_ok e0)
    refine ⟨.ref a, ea, ?_⟩
    refine qt σ G H ε s _ ?_
    cases e1 : fs ε with
    | stuck => rw [e1] at hp; exact hp
    | err c => rw [e1] at hp; exact hp
    | ok q =>
      rw [e1] at hp
      simp only [Res.bind_ok] at hp
      intro vs G1 H1 s1 st1 rs
      cases e2 : getOw q.2 i with
      | stuck => rw [e2] at hp; exact hp.elim
      | err c => exact absurd e2 getOw_err
      | ok cs =>
        rw [e2] at hp
        simp only [Res.bind_ok] at hp
        obtain ⟨a', ws, ea', ga', ha', l⟩ := s1.ow (getOw_ok e2)
        rw [ea] at ea'
        cases ea'
        have hp1 : Post M W σ G1 H1 q.2 (Rp M.F) ((g cs q.1).ne.bind fun r => .ok (r.1, q.2.set i (.ow r.2))) Q := Post.shift s1 st1 hp
        refine ⟨a, ws, cs, q.1, vs, G1, rfl, by rw [hl _ _ e1]; exact hn, s1.hg, ga', ha', l, rs, ?_⟩
        cases e3 : g cs q.1 with
        | stuck => rw [e3] at hp1; exact hp1
        | err cc => rw [e3] at hp1; exact hp1
        | ok r =>
          rw [e3] at hp1
          intro v G' H' ws' st' hg' ga2 ha2 l2 rv
          have hq := getOw_ok e2
          have hi : i < q.2.length := (List.getElem?_eq_some_iff.mp hq).1
          have old : ∀ j, j ≠ i → (q.2.set i (Slot.ow r.2))[j]? = q.2[j]? := fun j hj => List.getElem?_set_ne (Ne.symm hj)
          have ownB : ∀ (j : Nat) (ds' : List D), (q.2.set i (Slot.ow r.2))[j]? = some (Slot.ow ds') → ∃ ds'' : List D, q.2[j]? = some (Slot.ow ds'') := fun j ds' e' => by
            by_cases hj : j = i
            · subst hj; exact ⟨cs, hq⟩
            · rw [old j hj] at e'; exact ⟨ds', e'⟩
          have own : ∀ z, Own σ (q.2.set i (.ow r.2)) z → Own σ q.2 z := fun z ⟨j, ds', f1, f2⟩ => by
            obtain ⟨ds'', f3⟩ := ownB j ds' f1
            exact ⟨j, ds'', f3, f2⟩
          have owa : Own σ q.2 a := ⟨i, cs, hq, ea⟩
          have sr : SR M G' H' σ (q.2.set i (.ow r.2)) := by
            refine ⟨hg'.sub, hg'.ntb, hg'.tabs, by rw [List.length_set]; exact s1.len, fun j xx o f1 f2 => ?_, fun j l d1 d2 z f1 f2 f3 f4 => ?_, fun z hz => ?_⟩
            · by_cases hj : j = i
              · subst hj
                rw [List.getElem?_set_self hi] at f1
                rw [ea] at f2
                cases f1
                cases f2
                exact ⟨a, ws', rfl, ga2, ha2, l2⟩
              · rw [old j hj] at f1
                have h := s1.slots j xx o f1 f2
                cases xx with
                | em => trivial
                | pu d =>
                  obtain ⟨v, ev, rr⟩ := h
                  exact ⟨v, ev, rr.mono st'.gg⟩
                | ow d' =>
                  obtain ⟨z, us, ez, nz, hz, rr⟩ := h
                  have hne : z ≠ a := fun y => hj (s1.inj j i d' cs a f1 hq (by rw [f2, ez, y]) ea)
                  refine ⟨z, us, ez, ?_, st'.hh _ _ hz (fun ps y => by cases y) hne, rr.mono st'.gg⟩
                  cases qz : G' z with
                  | none => rfl
                  | some u =>
                    rcases st'.gn z u qz with y | y | y
                    · rw [nz] at y; cases y
                    · rw [hz] at y; cases y
                    · exact (hne y).elim
            · obtain ⟨d1', h1⟩ := ownB j d1 f1
              obtain ⟨d2', h2⟩ := ownB l d2 f2
              exact s1.inj j l d1' d2' z h1 h2 f3 f4
            · obtain ⟨aa, d', bb⟩ := s1.cup z hz
              refine ⟨aa, ?_⟩
              by_cases h0 : 0 = i
              · rw [← h0, List.getElem?_set_self (by omega)]; exact ⟨r.2, rfl⟩
              · rw [old 0 h0]; exact ⟨d', bb⟩
          refine hp1 v G' H' sr ⟨st'.gg, fun z o h nt nn => st'.hh z o h nt fun y => nn (by rw [y]; exact owa), st'.hs, fun z o h => ?_, fun z h => .inl (own z h)⟩ rv
          rcases st'.gn z o h with y | y | y
          · exact .inl y
          · exact .inr (.inl y)
          · exact .inr (.inr (by rw [y]; exact owa))
end

/-! ### a def by its body -/
@[simp] def startE (n : Nat) (ds : List D) : Ev := ds.map .pu ++ List.replicate (n - ds.length) .em
@[reducible, simp] def outRes (r : Out) : Res D := match r with
  | .nx _ => .ok .non
  | .rt d _ => .ok d
  | .err c => .err c
  | _ => .stuck
theorem start_get (N : List Str) (vs : List V) (i : Nat) : (L2.start N vs)[i]? = if i < vs.length then (vs[i]?).map some else if i < N.length then some none else none := by
  unfold L2.start
  by_cases h : i < vs.length
  · rw [if_pos h, List.getElem?_append_left (by rw [List.length_map]; exact h), List.getElem?_map]
  · rw [if_neg h, List.getElem?_append_right (by rw [List.length_map]; omega), List.length_map]
    by_cases h2 : i < N.length
    · rw [if_pos h2, List.getElem?_replicate, if_pos (by omega)]
    · rw [if_neg h2, List.getElem?_replicate, if_neg (by omega)]
theorem startE_get (n : Nat) (ds : List D) (i : Nat) : (startE n ds)[i]? = if i < ds.length then (ds[i]?).map .pu else if i < n then some .em else none := by
  unfold startE
  by_cases h : i < ds.length
  · rw [if_pos h, List.getElem?_append_left (by rw [List.length_map]; exact h), List.getElem?_map]
  · rw [if_neg h, List.getElem?_append_right (by rw [List.length_map]; omega), List.length_map]
    by_cases h2 : i < n
    · rw [if_pos h2, List.getElem?_replicate, if_pos (by omega)]
    · rw [if_neg h2, List.getElem?_replicate, if_neg (by omega)]
theorem sr_start {F : Fx} {G H : Hp} {N : List Str} {ds : List D} {vs : List V} (hg : HG F G H) (l : RpL F G ds vs) (hn : ds.length ≤ N.length) : SR ⟨F, none⟩ G H (L2.start N vs) (startE N.length ds) := by
  have noow : ∀ (i : Nat) (es : List D), (startE N.length ds)[i]? ≠ some (.ow es) := fun i es e => by
    rw [startE_get] at e
    split at e
    · cases q : ds[i]? with
      | none => rw [q] at e; cases e
      | some d => rw [q] at e; cases e
    · split at e <;> cases e
  refine ⟨hg.sub, hg.ntb, hg.tabs, ?_, fun i x o e1 e2 => ?_, fun i j d1 d2 q e1 _ _ _ => absurd e1 (noow i d1), fun p h => by cases h⟩
  · unfold startE L2.start
    simp only [List.length_append, List.length_map, List.length_replicate]
    rw [l.length]
  · rw [startE_get] at e1
    rw [start_get, ← l.length] at e2
    by_cases h : i < ds.length
    · rw [if_pos h] at e1 e2
      rw [List.getElem?_eq_getElem h] at e1
      cases e1
      obtain ⟨v, ev, r⟩ := l.get (List.getElem?_eq_getElem h)
      rw [ev] at e2
      cases e2
      exact ⟨v, rfl, r⟩
    · rw [if_neg h] at e1
      split at e1
      · cases e1; trivial
      · cases e1
theorem own_start {F : Fx} {N : List Str} {ds : List D} {vs : List V} {q : Addr} : ¬ Own (L2.start N vs) (startE N.length ds) q := fun ⟨i, es, e, _⟩ => by
  rw [startE_get] at e
  split at e
  · cases q : ds[i]? with
    | none => rw [q] at e; cases e
    | some d => rw [q] at e; cases e
  · split at e <;> cases e

/-- as Fun.okX, over exceptions whose context is None -/
theorem _root_.L2.Fun.okN {P : Program} {w : World} {K : PySem.W.Frag} {mg : Str → Option Value} {base : Heap} {x qual : Str} {st : Stmt} {f : Addr} {fd : FuncData} {N ps : List Str} {k : Nat} {sp : Sp} (Fu : Fun K x qual st f fd) (S : FnScope N ps (defScope st))
    (len : ∀ vs H Q E, sp vs H Q E → vs.length = ps.length)
    (hb : ∀ (cdv : Value) (A : Around) (outer : List Env) (s : Shared) (H : Hp) (vs : List V) (Q : VK) (E : XK), Room k (A.deeper (envOfC qual (defScope st) s.heap.objs.size f cdv)) → sp vs H Q E →
      ∃ t, PSs (cxOf (L2N.CX P w) P w K mg base N qual (defScope st) f cdv A outer s H E) (defBody st) t ∧ t { nx := fun _ H' => Q .non H', rt := Q } (L2.start N vs) H) :
    FnOk P w K mg base (L2N.CX P w) (k + 1) f fd ps sp := by
  obtain ⟨_, _, _, _, _, _, cdv, _, _, rfl, lk, hcd⟩ := Fu.ex
  exact fn_of lk hcd S len fun A outer s H vs Q E => hb cdv A outer s H vs Q E

abbrev WE0 (E : XK) : WX := fun cls d _ H => E cls d H
section
variable {P : Program} {w : World} {K : PySem.W.Frag} {mg : Str → Option Value} {base : Heap}
theorem co_fn {F : Fx} (hF : F.K = K) {cp : Option Addr} {N ps : List Str} {qual : Str} {sc : Scope} (S : FnScope N ps sc) {f : Addr} {cdv : Value} {A : Around} {outer : List Env} {s : Shared} {H : Hp} {E : XK} {k : Nat} (hr : Room k (A.deeper (envOfC qual sc s.heap.objs.size f cdv))) :
    CO ⟨F, cp⟩ (WE0 E) k (cxOf (L2N.CX P w) P w K mg base N qual sc f cdv A outer s H E) :=
  ⟨hF.symm, rfl, L2N.takes_of rfl rfl rfl rfl, S.nd, hr, passes_of rfl⟩
/-- a def whose arguments are known values -/
theorem fn_pure {F : Fx} (hF : F.K = K) {x qual : Str} {st : Stmt} {f : Addr} {fd : FuncData} {N ps : List Str} {k n : Nat} {g : List D → Res D} {body : Ev → Out} (Fu : Fun K x qual st f fd) (S : FnScope N ps (defScope st)) (hn : ps.length = n) (hN : n ≤ N.length)
    (hb : ∀ (cdv : Value) (A : Around) (outer : List Env) (s : Shared) (H : Hp) (E : XK), CO ⟨F, none⟩ (WE0 E) k (cxOf (L2N.CX P w) P w K mg base N qual (defScope st) f cdv A outer s H E) → PSs' ⟨F, none⟩ (WE0 E) (cxOf (L2N.CX P w) P w K mg base N qual (defScope st) f cdv A outer s H E) (defBody st) body)
    (hg : ∀ ds, ds.length = n → g ds = outRes (body (startE N.length ds))) : FnOk P w K mg base (L2N.CX P w) (k + 1) f fd ps (SpP F n g) := by
  refine Fu.okN S (fun vs H Q E ⟨ds, G, h1, h2, h3, _⟩ => by rw [← h3.length, h1, hn]) fun cdv A outer s H vs Q E hr h => ?_
  obtain ⟨ds, G, h1, h2, h3, h4⟩ := h
  obtain ⟨t, et, qt⟩ := hb cdv A outer s H E (co_fn hF S hr)
  refine ⟨t, et, qt _ G H (startE N.length ds) (sr_start h2 h3 (by omega)) _ ?_⟩
  rw [hg ds h1] at h4
  have grow : ∀ {G' H' : Hp} {O' : Addr → Prop}, Step G H (Own (L2.start N vs) (startE N.length ds)) G' H' O' → Grow G H G' H' := fun {G' H' O'} st =>
    ⟨st.gg, fun q o h nt => st.hh q o h nt (own_start (F := F)), st.hs, fun q o h => (st.gn q o h).elim .inl fun z => z.elim .inr fun z => (own_start (F := F) z).elim⟩
  cases e : body (startE N.length ds) with
  | nx ε' => rw [e] at h4; exact fun σ' G' H' s' st' => h4 .non G' H' (grow st') s'.hg (rp_non.mpr rfl)
  | rt d ε' => rw [e] at h4; exact fun v σ' G' H' s' st' r => h4 v G' H' (grow st') s'.hg r
  | err c => rw [e] at h4; exact fun σ' G' H' ε' s' st' => h4 G' H' (grow st') s'.hg
  | bk ε' => rw [e] at h4; exact h4.elim
  | ct ε' => rw [e] at h4; exact h4.elim
  | stuck => rw [e] at h4; exact h4.elim

def startC (n : Nat) (cs ds : List D) : Ev := .ow cs :: (ds.map .pu ++ List.replicate (n - (ds.length + 1)) .em)
@[reducible] def outC (r : Out) : Res (D × List D) := match r with
  | .nx ε => (getOw ε 0).bind fun cs => .ok (.non, cs)
  | .rt d ε => (getOw ε 0).bind fun cs => .ok (d, cs)
  | _ => .stuck
theorem startC_succ (n : Nat) (cs ds : List D) (i : Nat) : (startC n cs ds)[i + 1]? = (startE (n - 1) ds)[i]? := by
  unfold startC startE
  rw [List.getElem?_cons_succ, show n - 1 - ds.length = n - (ds.length + 1) by omega]
theorem sr_startC {F : Fx} {G H : Hp} {N : List Str} {cs ds : List D} {p : Addr} {ws vs : List V} (hg : HG F G H) (gp : G p = none) (hp : H p = some (.lst ws)) (lc : RpL F G cs ws) (l : RpL F G ds vs) (hn : ds.length + 1 ≤ N.length) :
    SR ⟨F, some p⟩ G H (L2.start N (.ref p :: vs)) (startC N.length cs ds) := by
  have noow : ∀ (i : Nat) (es : List D), (startC N.length cs ds)[i + 1]? ≠ some (.ow es) := fun i es e => by
    rw [startC_succ, startE_get] at e
    split at e
    · cases q : ds[i]? with
      | none => rw [q] at e; cases e
      | some d => rw [q] at e; cases e
    · split at e <;> cases e
  refine ⟨hg.sub, hg.ntb, hg.tabs, ?_, fun i x o e1 e2 => ?_, fun i j d1 d2 q e1 e2 _ _ => ?_, fun q h => ?_⟩
  · unfold startC L2.start
    simp only [List.length_append, List.length_map, List.length_replicate, List.length_cons]
    rw [l.length]
    omega
  · cases i with
    | zero =>
      have a1 : (startC N.length cs ds)[0]? = some (.ow cs) := rfl
      have a2 : (L2.start N (.ref p :: vs))[0]? = some (some (.ref p)) := rfl
      rw [a1] at e1
      rw [a2] at e2
      cases e1
      cases e2
      exact ⟨p, ws, rfl, gp, hp, lc⟩
    | succ i =>
      rw [startC_succ, startE_get] at e1
      rw [start_get] at e2
      simp only [List.length_cons] at e2
      by_cases h : i < ds.length
      · rw [if_pos h, List.getElem?_eq_getElem h] at e1
        cases e1
        obtain ⟨v, ev, r⟩ := l.get (List.getElem?_eq_getElem h)
        rw [if_pos (by rw [← l.length]; omega), List.getElem?_cons_succ, ev] at e2
        cases e2
        exact ⟨v, rfl, r⟩
      · rw [if_neg h] at e1
        split at e1
        · cases e1; trivial
        · cases e1
  · cases i with
    | zero =>
      cases j with
      | zero => rfl
      | succ j => exact absurd e2 (noow j d2)
    | succ i => exact absurd e1 (noow i d1)
  · cases h
    exact ⟨rfl, cs, rfl⟩
theorem own_startC {N : List Str} {cs ds : List D} {p q : Addr} {vs : List V} (h : Own (L2.start N (.ref p :: vs)) (startC N.length cs ds) q) : q = p := by
  obtain ⟨i, es, e, e2⟩ := h
  cases i with
  | zero =>
    have a2 : (L2.start N (.ref p :: vs))[0]? = some (some (.ref p)) := rfl
    rw [a2] at e2
    cases e2; rfl
  | succ i =>
    rw [startC_succ, startE_get] at e
    split at e
    · cases q : ds[i]? with
      | none => rw [q] at e; cases e
      | some d => rw [q] at e; cases e
    · split at e <;> cases e
theorem fn_cup {F : Fx} (hF : F.K = K) {x qual : Str} {st : Stmt} {f : Addr} {fd : FuncData} {N ps : List Str} {k n : Nat} {g : List D → List D → Res (D × List D)} {body : Ev → Out} (Fu : Fun K x qual st f fd) (S : FnScope N ps (defScope st)) (hn : ps.length = n + 1) (hN : n + 1 ≤ N.length)
    (hb : ∀ (p : Addr) (cdv : Value) (A : Around) (outer : List Env) (s : Shared) (H : Hp) (E : XK), CO ⟨F, some p⟩ (WE0 E) k (cxOf (L2N.CX P w) P w K mg base N qual (defScope st) f cdv A outer s H E) → PSs' ⟨F, some p⟩ (WE0 E) (cxOf (L2N.CX P w) P w K mg base N qual (defScope st) f cdv A outer s H E) (defBody st) body)
    (hg : ∀ cs ds, ds.length = n → g cs ds = outC (body (startC N.length cs ds))) : FnOk P w K mg base (L2N.CX P w) (k + 1) f fd ps (SpC F n g) := by
  refine Fu.okN S (fun vs H Q E ⟨p, ws, cs, ds, rest, G, h0, h1, h2, _, _, _, h3, _⟩ => by rw [h0, List.length_cons, ← h3.length, h1, hn]) fun cdv A outer s H vs Q E hr h => ?_
  obtain ⟨p, ws, cs, ds, rest, G, rfl, h1, h2, gp, hp, lc, l, h4⟩ := h
  obtain ⟨t, et, qt⟩ := hb p cdv A outer s H E (co_fn hF S hr)
  have s0 : SR ⟨F, some p⟩ G H (L2.start N (.ref p :: rest)) (startC N.length cs ds) := sr_startC h2 gp hp lc l (by omega)
  refine ⟨t, et, qt _ G H (startC N.length cs ds) s0 _ ?_⟩
  rw [hg cs ds h1] at h4
  have own0 : Own (L2.start N (.ref p :: rest)) (startC N.length cs ds) p := ⟨0, cs, rfl, rfl⟩
  have fin : ∀ {σ' : St} {ε' : Ev} {G' H' : Hp} {cs' : List D}, SR ⟨F, some p⟩ G' H' σ' ε' → Step G H (Own (L2.start N (.ref p :: rest)) (startC N.length cs ds)) G' H' (Own σ' ε') → getOw ε' 0 = .ok cs' →
      Step G H (· = p) G' H' (· = p) ∧ HG F G' H' ∧ G' p = none ∧ ∃ ws', H' p = some (.lst ws') ∧ RpL F G' cs' ws' := fun {σ' ε' G' H' cs'} s' st e => by
    obtain ⟨a, ws', ea, ga, ha, la⟩ := s'.ow (getOw_ok e)
    obtain ⟨b, _⟩ := s'.cup p rfl
    rw [b] at ea
    cases ea
    refine ⟨⟨st.gg, fun q o h nt nn => st.hh q o h nt fun z => nn (own_startC z), st.hs, fun q o h => ?_, fun q h => .inl h⟩, s'.hg, ga, ws', ha, la⟩
    rcases st.gn q o h with z | z | z
    · exact .inl z
    · exact .inr (.inl z)
    · exact .inr (.inr (own_startC z))
  cases e : body (startC N.length cs ds) with
  | nx ε' =>
    rw [e] at h4
    intro σ' G' H' s' st'
    cases e2 : getOw ε' 0 with
    | stuck => simp only [outC, e2, Res.bind] at h4
    | err c => exact absurd e2 getOw_err
    | ok cs' =>
      simp only [outC, e2, Res.bind] at h4
      obtain ⟨a, b, c, ws', d, l'⟩ := fin s' st' e2
      exact h4 .non G' H' ws' a b c d l' (rp_non.mpr rfl)
  | rt d ε' =>
    rw [e] at h4
    intro v σ' G' H' s' st' r
    cases e2 : getOw ε' 0 with
    | stuck => simp only [outC, e2, Res.bind] at h4
    | err c => exact absurd e2 getOw_err
    | ok cs' =>
      simp only [outC, e2, Res.bind] at h4
      obtain ⟨a, b, c, ws', dd, l'⟩ := fin s' st' e2
      exact h4 v G' H' ws' a b c dd l' r
  | err c => rw [e] at h4; exact h4.elim
  | bk ε' => rw [e] at h4; exact h4.elim
  | ct ε' => rw [e] at h4; exact h4.elim
  | stuck => rw [e] at h4; exact h4.elim
end
end PL
/-! PL, part k: chains of comparisons. -/
namespace PL
open PySem PySem.Spec PyProof.Rows L2

@[reducible, simp] def eCh2 (g1 g2 : D → D → Res D) (fa fb fc : Ev → Res (D × Ev)) : Ev → Res (D × Ev) := fun ε => (fa ε).bind fun p => (fb p.2).bind fun q => (g1 p.1 q.1).bind fun z => (asB z).bind fun t =>
  if t then (fc q.2).bind fun r => (g2 q.1 r.1).bind fun d => .ok (d, r.2) else .ok (.bl false, q.2)
@[reducible, simp] def eCh3 (g1 g2 g3 : D → D → Res D) (fa fb fc fd : Ev → Res (D × Ev)) : Ev → Res (D × Ev) := fun ε => (fa ε).bind fun p => (fb p.2).bind fun q => (g1 p.1 q.1).bind fun z => (asB z).bind fun t =>
  if t then (fc q.2).bind fun r => (g2 q.1 r.1).bind fun z2 => (asB z2).bind fun t2 => if t2 then (fd r.2).bind fun u => (g3 r.1 u.1).bind fun d => .ok (d, u.2) else .ok (.bl false, r.2) else .ok (.bl false, q.2)
def tChain3 (r r' r'' : R2) (ta tb tc td : TE) : TE := fun σ H Q => ta σ H fun x H1 => tb σ H1 fun y H2 => r x y H2 fun z H3 => ∃ k, z = .bl k ∧
  (if k = true then tc σ H3 fun w' H4 => r' y w' H4 fun z2 H5 => ∃ k2, z2 = .bl k2 ∧ (if k2 = true then td σ H5 fun u H6 => r'' w' u H6 Q else Q (.bl false) H5) else Q (.bl false) H3)
section
variable {M : Fr} {W : WX} {X : Cx} {k : Nat} {a b c e : Expr} {fa fb fc fe : Ev → Res (D × Ev)} {pos : Pos} {op op' op'' : CmpOp} {g1 g2 g3 : D → D → Res D}
theorem tr_ch2 {r r' : R2} {ta tb tc : TE} (o1 : OpT M W r g1) (o2 : OpT M W r' g2) (ha : Tr M W (Rp M.F) ta fa) (hb : Tr M W (Rp M.F) tb fb) (hc : Tr M W (Rp M.F) tc fc) : Tr M W (Rp M.F) (tChain r r' ta tb tc) (eCh2 g1 g2 fa fb fc) := by
  refine Tr.bind (f2 := fun x ε => (fb ε).bind fun q => (g1 x q.1).bind fun z => (asB z).bind fun t => if t then (fc q.2).bind fun r => (g2 q.1 r.1).bind fun d => .ok (d, r.2) else .ok (.bl false, q.2))
    (t2 := fun v σ H1 Q => tb σ H1 fun y H2 => r v y H2 fun z H3 => ∃ k, z = .bl k ∧ (if k = true then tc σ H3 fun w' H4 => r' y w' H4 Q else Q (.bl false) H3)) ha ?_
  intro x v σ G H ε s rx Q hp
  refine hb σ G H ε s _ ?_
  cases e1 : fb ε with
  | stuck => rw [e1] at hp; exact hp
  | err c => rw [e1] at hp; exact hp
  | ok q =>
    rw [e1] at hp
    intro w G1 H1 s1 st1 ry
    have hp1 : Post M W σ G1 H1 q.2 (Rp M.F) ((g1 x q.1).bind fun z => (asB z).bind fun t => if t then (fc q.2).bind fun r => (g2 q.1 r.1).bind fun d => .ok (d, r.2) else .ok (.bl false, q.2)) Q := Post.shift s1 st1 hp
    refine o1 x q.1 v w σ G1 H1 q.2 s1 (rx.mono st1.gg) ry _ ?_
    cases e2 : g1 x q.1 with
    | stuck => rw [e2] at hp1; exact hp1
    | err c => rw [e2] at hp1; exact hp1
    | ok z =>
      rw [e2] at hp1
      intro zv G2 H2 s2 st2 rz
      have hp2 : Post M W σ G2 H2 q.2 (Rp M.F) ((asB z).bind fun t => if t then (fc q.2).bind fun r => (g2 q.1 r.1).bind fun d => .ok (d, r.2) else .ok (.bl false, q.2)) Q := Post.shift s2 st2 hp1
      cases z with
      | bl t =>
        rw [rp_bl] at rz
        refine ⟨t, rz, ?_⟩
        cases t with
        | false => exact hp2 _ G2 H2 s2 (Step.refl ..) (rp_bl.mpr rfl)
        | true =>
          have hp3 : Post M W σ G2 H2 q.2 (Rp M.F) ((fc q.2).bind fun r => (g2 q.1 r.1).bind fun d => .ok (d, r.2)) Q := hp2
          refine hc σ G2 H2 q.2 s2 _ ?_
          cases e3 : fc q.2 with
          | stuck => rw [e3] at hp3; exact hp3
          | err c => rw [e3] at hp3; exact hp3
          | ok r =>
            rw [e3] at hp3
            intro u G3 H3 s3 st3 ru
            exact o2 q.1 r.1 w u σ G3 H3 r.2 s3 ((ry.mono st2.gg).mono st3.gg) ru Q (Post.shift s3 st3 hp3)
      | _ => exact hp2.elim
theorem pv_ch2 (h1 : CmpR M W X op g1) (h2 : CmpR M W X op' g2) (ha : PV M W X a fa) (hb : PV M W X b fb) (hc : PV M W X c fc) (hm : lastMarks [op, op'] [b, c] = false := by with_unfolding_all rfl) : PV M W X (.Compare a [op, op'] [b, c] pos) (eCh2 g1 g2 fa fb fc) := by
  obtain ⟨r, p1, q1⟩ := h1.ex
  obtain ⟨r', p2, q2⟩ := h2.ex
  obtain ⟨ta, ea, qa⟩ := ha
  obtain ⟨tb, eb, qb⟩ := hb
  obtain ⟨tc, ec, qc⟩ := hc
  exact ⟨_, pe_chain p1 p2 ea eb ec hm, tr_ch2 q1 q2 qa qb qc⟩
theorem pb_ch2 (h1 : CmpR M W X op g1) (h2 : CmpR M W X op' g2) (ha : PV M W X a fa) (hb : PV M W X b fb) (hc : PV M W X c fc) (hm : lastMarks [op, op'] [b, c] = false := by with_unfolding_all rfl) : PB M W X (.Compare a [op, op'] [b, c] pos) (bOf (eCh2 g1 g2 fa fb fc)) := by
  obtain ⟨r, p1, q1⟩ := h1.ex
  obtain ⟨r', p2, q2⟩ := h2.ex
  obtain ⟨ta, ea, qa⟩ := ha
  obtain ⟨tb, eb, qb⟩ := hb
  obtain ⟨tc, ec, qc⟩ := hc
  exact ⟨_, pt_chain p1 p2 ea eb ec hm, tr_test (tr_ch2 q1 q2 qa qb qc)⟩
theorem pe_chain3 {r r' r'' : R2} {ta tb tc td : TE} (ho : OpR X (compareOp op) r) (ho' : OpR X (compareOp op') r') (ho'' : OpR X (compareOp op'') r'') (ha : PE X a ta) (hb : PE X b tb) (hc : PE X c tc) (hd : PE X e td)
    (hm : lastMarks [op, op', op''] [b, c, e] = false := by with_unfolding_all rfl) : PE X (.Compare a [op, op', op''] [b, c, e] pos) (tChain3 r r' r'' ta tb tc td) := by
  refine ⟨fun pins s σ H Q I h => ?_⟩
  refine Compare_chain (thn (ha.run pins s σ H _ I h) fun v s1 ⟨x, H1, I1, r1, q1⟩ => chain_link (thn (hb.run pins s1 σ H1 _ I1 q1) fun u s2 ⟨y, H2, I2, r2, q2⟩ => thn (ho pins s2 σ H2 x y v u _ I2 r1 r2 q2) fun d s3 ⟨z, H3, I3, r3, k, e, q3⟩ => ?_)) hm
  subst e
  cases r3
  refine wpAny_truthy_bool ?_
  cases k with
  | false => exact ite_ff ⟨.bl false, H3, I3, rfl, q3⟩
  | true =>
    refine ite_tt (chain_link (thn (hc.run pins s3 σ H3 _ I3 q3) fun w' s4 ⟨z', H4, I4, r4, q4⟩ => thn (ho' pins s4 σ H4 y z' u w' _ I4 r2 r4 q4) fun d' s5 ⟨z2, H5, I5, r5, k2, e2, q5⟩ => ?_))
    subst e2
    cases r5
    refine wpAny_truthy_bool ?_
    cases k2 with
    | false => exact ite_ff ⟨.bl false, H5, I5, rfl, q5⟩
    | true => exact ite_tt (chain_last (thn (hd.run pins s5 σ H5 _ I5 q5) fun w2 s6 ⟨z3, H6, I6, r6, q6⟩ => ho'' pins s6 σ H6 z' z3 w' w2 Q I6 r4 r6 q6))
theorem tr_ch3 {r r' r'' : R2} {ta tb tc td : TE} (o1 : OpT M W r g1) (o2 : OpT M W r' g2) (o3 : OpT M W r'' g3) (ha : Tr M W (Rp M.F) ta fa) (hb : Tr M W (Rp M.F) tb fb) (hc : Tr M W (Rp M.F) tc fc) (hd : Tr M W (Rp M.F) td fe) :
    Tr M W (Rp M.F) (tChain3 r r' r'' ta tb tc td) (eCh3 g1 g2 g3 fa fb fc fe) := by
  refine Tr.bind (f2 := fun x ε => (fb ε).bind fun q => (g1 x q.1).bind fun z => (asB z).bind fun t => if t then (fc q.2).bind fun r => (g2 q.1 r.1).bind fun z2 => (asB z2).bind fun t2 => if t2 then (fe r.2).bind fun u => (g3 r.1 u.1).bind fun d => .ok (d, u.2) else .ok (.bl false, r.2) else .ok (.bl false, q.2))
    (t2 := fun v σ H1 Q => tb σ H1 fun y H2 => r v y H2 fun z H3 => ∃ k, z = .bl k ∧ (if k = true then tc σ H3 fun w' H4 => r' y w' H4 fun z2 H5 => ∃ k2, z2 = .bl k2 ∧ (if k2 = true then td σ H5 fun u H6 => r'' w' u H6 Q else Q (.bl false) H5) else Q (.bl false) H3)) ha ?_
  intro x v σ G H ε s rx Q hp
  refine hb σ G H ε s _ ?_
  cases e1 : fb ε with
  | stuck => rw [e1] at hp; exact hp
  | err c => rw [e1] at hp; exact hp
  | ok q =>
    rw [e1] at hp
    intro w G1 H1 s1 st1 ry
    have hp1 : Post M W σ G1 H1 q.2 (Rp M.F) ((g1 x q.1).bind fun z => (asB z).bind fun t => if t then (fc q.2).bind fun r => (g2 q.1 r.1).bind fun z2 => (asB z2).bind fun t2 => if t2 then (fe r.2).bind fun u => (g3 r.1 u.1).bind fun d => .ok (d, u.2) else .ok (.bl false, r.2) else .ok (.bl false, q.2)) Q := Post.shift s1 st1 hp
    refine o1 x q.1 v w σ G1 H1 q.2 s1 (rx.mono st1.gg) ry _ ?_
    cases e2 : g1 x q.1 with
    | stuck => rw [e2] at hp1; exact hp1
    | err c => rw [e2] at hp1; exact hp1
    | ok z =>
      rw [e2] at hp1
      intro zv G2 H2 s2 st2 rz
      have hp2 : Post M W σ G2 H2 q.2 (Rp M.F) ((asB z).bind fun t => if t then (fc q.2).bind fun r => (g2 q.1 r.1).bind fun z2 => (asB z2).bind fun t2 => if t2 then (fe r.2).bind fun u => (g3 r.1 u.1).bind fun d => .ok (d, u.2) else .ok (.bl false, r.2) else .ok (.bl false, q.2)) Q := Post.shift s2 st2 hp1
      cases z with
      | bl t =>
        rw [rp_bl] at rz
        refine ⟨t, rz, ?_⟩
        cases t with
        | false => exact hp2 _ G2 H2 s2 (Step.refl ..) (rp_bl.mpr rfl)
        | true =>
          have hp3 : Post M W σ G2 H2 q.2 (Rp M.F) ((fc q.2).bind fun r => (g2 q.1 r.1).bind fun z2 => (asB z2).bind fun t2 => if t2 then (fe r.2).bind fun u => (g3 r.1 u.1).bind fun d => .ok (d, u.2) else .ok (.bl false, r.2)) Q := hp2
          refine hc σ G2 H2 q.2 s2 _ ?_
          cases e3 : fc q.2 with
          | stuck => rw [e3] at hp3; exact hp3
          | err c => rw [e3] at hp3; exact hp3
          | ok r =>
            rw [e3] at hp3
            intro u G3 H3 s3 st3 ru
            have hp4 : Post M W σ G3 H3 r.2 (Rp M.F) ((g2 q.1 r.1).bind fun z2 => (asB z2).bind fun t2 => if t2 then (fe r.2).bind fun u => (g3 r.1 u.1).bind fun d => .ok (d, u.2) else .ok (.bl false, r.2)) Q := Post.shift s3 st3 hp3
            refine o2 q.1 r.1 w u σ G3 H3 r.2 s3 ((ry.mono st2.gg).mono st3.gg) ru _ ?_
            cases e4 : g2 q.1 r.1 with
            | stuck => rw [e4] at hp4; exact hp4
            | err c => rw [e4] at hp4; exact hp4
            | ok z2 =>
              rw [e4] at hp4
              intro zv2 G4 H4 s4 st4 rz2
              have hp5 : Post M W σ G4 H4 r.2 (Rp M.F) ((asB z2).bind fun t2 => if t2 then (fe r.2).bind fun u => (g3 r.1 u.1).bind fun d => .ok (d, u.2) else .ok (.bl false, r.2)) Q := Post.shift s4 st4 hp4
              cases z2 with
              | bl t2 =>
                rw [rp_bl] at rz2
                refine ⟨t2, rz2, ?_⟩
                cases t2 with
                | false => exact hp5 _ G4 H4 s4 (Step.refl ..) (rp_bl.mpr rfl)
                | true =>
                  have hp6 : Post M W σ G4 H4 r.2 (Rp M.F) ((fe r.2).bind fun u => (g3 r.1 u.1).bind fun d => .ok (d, u.2)) Q := hp5
                  refine hd σ G4 H4 r.2 s4 _ ?_
                  cases e5 : fe r.2 with
                  | stuck => rw [e5] at hp6; exact hp6
                  | err c => rw [e5] at hp6; exact hp6
                  | ok y =>
                    rw [e5] at hp6
                    intro yv G5 H5 s5 st5 ry5
                    exact o3 r.1 y.1 u yv σ G5 H5 y.2 s5 ((ru.mono st4.gg).mono st5.gg) ry5 Q (Post.shift s5 st5 hp6)
              | _ => exact hp5.elim
      | _ => exact hp2.elim
theorem pv_ch3 (h1 : CmpR M W X op g1) (h2 : CmpR M W X op' g2) (h3 : CmpR M W X op'' g3) (ha : PV M W X a fa) (hb : PV M W X b fb) (hc : PV M W X c fc) (hd : PV M W X e fe) (hm : lastMarks [op, op', op''] [b, c, e] = false := by with_unfolding_all rfl) :
    PV M W X (.Compare a [op, op', op''] [b, c, e] pos) (eCh3 g1 g2 g3 fa fb fc fe) := by
  obtain ⟨r, p1, q1⟩ := h1.ex
  obtain ⟨r', p2, q2⟩ := h2.ex
  obtain ⟨r'', p3, q3⟩ := h3.ex
  obtain ⟨ta, ea, qa⟩ := ha
  obtain ⟨tb, eb, qb⟩ := hb
  obtain ⟨tc, ec, qc⟩ := hc
  obtain ⟨td, ed, qd⟩ := hd
  exact ⟨_, pe_chain3 p1 p2 p3 ea eb ec ed hm, tr_ch3 q1 q2 q3 qa qb qc qd⟩
end
end PL
/-! PL, part l: enumerate over a tuple. -/
namespace PL
open PySem PySem.Spec PyProof.Rows L2
open Sem (wp)

theorem meets_enum1 {v : Value} {o : Obj} {H : Heap → Prop} (B : Begins v o H) :
    Meets (Builtin.«enumerate.__new__» ⟨[.type "enumerate", v], []⟩) (fun _ R s => H s.heap ∧
      R (.ok (.ret (.ref (s.heap.push o).objs.size))) { s with heap := (s.heap.push o).push { cls := .type "enumerate", data := .fields #[.none, .bool false, .ref s.heap.objs.size, rawInt 0, .none, .none] } }) :=
  .of_wp fun prog w A R s h => by
    obtain ⟨hp, g, d, tk, os⟩ := s; obtain ⟨h1, h⟩ := h
    have hsb := sub_enumerate
    have q1 : ∀ {A' : Around} {E Q : Value → Shared → Prop}, Q (.ref hp.objs.size) ⟨hp.push o, g, d, tk, os⟩ → wpAny (model prog w) A' (pyIter v) Q E ⟨hp, g, d, tk, os⟩ := fun q => B.iter prog w _ _ ⟨hp, g, d, tk, os⟩ _ h1 q
    wp_walk using q1
    refine wpAny_stack_any fun st => wpAny_pure ?_
    split
    · rename_i c _ _ _ _ _
      cases (c == Value.type "enumerate") <;> (wp_walk using q1; exact ⟨_, rfl, h⟩)
    · wp_walk using q1
      exact ⟨_, rfl, h⟩
theorem call_enum1 {prog : Program} {w : World} {A : Around} {E : Value → Shared → Prop} {s : Shared} {v : Value} {o : Obj} {H : Heap → Prop} {Q : Value → Shared → Prop} (B : Begins v o H) (h1 : H s.heap)
    (h : ∀ h', IsEnum h' (s.heap.objs.size + 1) s.heap.objs.size 0 .none → h'.get? s.heap.objs.size = some o → (∀ b o, s.heap.get? b = some o → h'.get? b = some o) → Q (.ref (s.heap.objs.size + 1)) { s with heap := h' }) :
    wpAny (model prog w) A (call (.type "enumerate") [v]) Q E s := by
  refine callType_new F.called_enumerate (by decide) (F.typeCall_enumerate_1 _) (F.newCall_enumerate_1 _) (fun obj => F.args_object_init_2 obj _) F.entry_enumerate_new (meets_enum1 B) ⟨h1, ?_⟩
  have hz : (s.heap.push o).objs.size = s.heap.objs.size + 1 := Heap.size_push ..
  show _ ∧ _
  rw [hz]
  have he : IsEnum ((s.heap.push o).push { cls := .type "enumerate", data := .fields #[.none, .bool false, .ref s.heap.objs.size, rawInt 0, .none, .none] }) (s.heap.objs.size + 1) s.heap.objs.size 0 .none := by
    have e1 := Heap.get?_push_size (s.heap.push o) (o := { cls := .type "enumerate", data := .fields #[.none, .bool false, .ref s.heap.objs.size, rawInt 0, .none, .none] }) rfl
    rw [hz] at e1; exact e1
  exact ⟨⟨_, he, rfl⟩, h _ he (Heap.get?_push_of_some _ (Heap.get?_push_size _ B.free)) fun b o x => Heap.get?_push_of_some _ (Heap.get?_push_of_some _ x)⟩

/-- the tuple at a, each item in a new pair, counted from c -/
def IteT (K : PySem.W.Frag) (c : Int) (a : Addr) : It :=
  ⟨fun i H => ∃ (xs : List V) (x : V), SqT K H a xs ∧ xs[i]? = some x, fun i H v H' => ∃ T x, v = .ref T ∧ H T = none ∧ H' = upd H T (.tup [.int (c + (i : Int)), x]) ∧ ∀ xs, SqT K H a xs → xs[i]? = some x, fun i H => ∃ xs : List V, SqT K H a xs ∧ xs.length ≤ i⟩
theorem turn_enumT {P : Program} {w : World} {K : PySem.W.Frag} {elts : List Expr} {kk : Nat} {tpos : Pos} (c : Int) (a e it : Addr) :
    Turn P w K (.Tuple elts kk tpos) (IteT K c a) [e, it] e (fun i h => (∃ old, IsEnum h e it (c + (i : Int)) old) ∧ h.IsTupleIter it a i ∧ e ≠ it) where
  mem := by simp
  obj := fun i h st b hb => by
    obtain ⟨⟨old, he⟩, ⟨o, ho, hc, hd⟩, _⟩ := st
    rcases (by simpa using hb : b = e ∨ b = it) with z | z
    · rw [z]; exact ⟨_, he, fun v q => nomatch q⟩
    · rw [z]; exact ⟨o, ho, fun v q => by rw [hd] at q; cases q⟩
  keep := fun i h h' st k => let ⟨⟨old, he⟩, hi, hne⟩ := st; ⟨⟨old, k e (by simp) _ he⟩, hi.at fun o q => k it (by simp) o q, hne⟩
  item := by
    intro X hP hw hK hc i pins s σ H E I hf st hg
    subst hP hw hK
    obtain ⟨⟨old, he⟩, hit, hne⟩ := st
    obtain ⟨xs, x, hq, hx⟩ := hg
    obtain ⟨its, rv, p, hz⟩ := I.tuple hq
    obtain ⟨u, hu, ru⟩ := rv.get hx
    have p0 : s.heap.IsTuple a its.toArray := p
    have hel : e < s.heap.objs.size := Heap.lt_size he
    have hil : it < s.heap.objs.size := by obtain ⟨_, q, _⟩ := hit; exact Heap.lt_size q
    have nea : e ≠ a := fun z => by
      obtain ⟨o, ho, hcl, _⟩ := p0
      rw [← z, he] at ho
      cases ho
      simp at hcl
    have nia : a ≠ it := fun z => by
      obtain ⟨o, ho, hcl, _⟩ := p0
      obtain ⟨o2, ho2, hcl2, _⟩ := hit
      rw [z, ho2] at ho
      cases ho
      rw [hcl2] at hcl
      simp at hcl
    have hi : i < its.toArray.size := by
      have e1 := (List.getElem?_eq_some_iff.mp hu).1
      simpa using e1
    refine wpAny_pyNext_enum_itemC (A := X.A) (Draws.tuple (show X.A.in1.handled = none from I.ok.hd hc) it a nia its.toArray) he ⟨hit, p0⟩ hi hne (by simp [hne, nea]) fun x0 h' tk hP ho hst hT hsz hk => ?_
    have ex : x0 = u := by
      have e1 : its[i]? = some x0 := by simpa using hP
      rw [hu] at e1
      exact (Option.some.inj e1).symm
    subst ex
    refine ⟨_, rfl, wpAny_letOwnedTupleGo_enum (s := { s with heap := h', toks := tk + 1 }) ho fun h'' he' sb => ?_⟩
    have hT2 : h''.get? s.heap.objs.size = some { cls := .type "tuple", data := .seq #[.int (c + (i : Int)) tk, x0] } := (sb.2 _ (Nat.ne_of_gt hel)).trans hT
    have new : ObjOk X.prog X.w (upd H s.heap.objs.size (.tup [.int (c + (i : Int)), x])) h'' s.heap.objs.size (.tup [.int (c + (i : Int)), x]) :=
      ⟨by show 2 ≤ sizeLine; decide, [.int (c + (i : Int)) tk, x0], .cons ⟨_, rfl⟩ (.cons ru .nil), ⟨_, hT2, rfl, _, rfl⟩⟩
    have I1 : Inv X pins σ (upd H s.heap.objs.size (.tup [.int (c + (i : Int)), x])) { s with heap := h'', toks := tk + 1 } :=
      I.turnedNew (ch := [e, it]) (fun b ob hb q => (sb.2 b (fun z => hb (by simp [z]))).trans (hk b ob (fun z => hb (by simp [z])) (fun z => hb (by simp [z])) q)) hf (Nat.le_refl _) new
    refine ⟨.ref s.heap.objs.size, _, I1, rfl, ⟨_, x, rfl, I.hok.fresh (Nat.le_refl _), rfl, fun ys hy => by rw [I.tuple_inj hy hq]; exact hx⟩, ⟨⟨x0, ?_⟩, hst.1.at fun o q => (sb.2 it (Ne.symm hne)).trans q, hne⟩, fun b hb => ?_⟩
    · have e1 : c + ((i + 1 : Nat) : Int) = c + (i : Int) + 1 := by omega
      rw [e1]; exact he'
    · have hb' : b < s.heap.objs.size := by
        rcases (by simpa using hb : b = e ∨ b = it) with z | z
        · rw [z]; exact hel
        · rw [z]; exact hil
      rw [upd_ne (Nat.ne_of_lt hb')]
      exact (hf b hb).1
  done := by
    intro X hP hw hK hc i pins s σ H E I hf st hg
    subst hP hw hK
    obtain ⟨⟨old, he⟩, hit, hne⟩ := st
    obtain ⟨xs, hq, hx⟩ := hg
    obtain ⟨its, rv, p, hz⟩ := I.tuple hq
    obtain ⟨f0, f1, f2, f3, f4, f5⟩ := hf it (by simp)
    have hl := rv.length
    have p0 : s.heap.IsTuple a its.toArray := p
    have hT : s.TypeIs (.ref e) "enumerate" := ⟨_, he, rfl⟩
    unfold pyNext
    refine wpAny_bind (wpAny_attempt (wpAny_callSpecial?_slot (name := Str.ofString "__next__") hT F.slot_enumerate_next (wpAny_call_entry F.slot_enumerate_next hT F.entry_enumerate_next ?_ (F.args_enumerate_next_1 _))))
    show wpAny _ _ (field (.ref e) 2 >>= _) _ _ _
    refine wpAny_bind (wpAny_field he rfl (x := .ref it) rfl ?_)
    refine wpAny_bind (wpAny_nextOf_tuple_end (show X.A.in1.handled = none from I.ok.hd hc) hit p0 (by simp; omega) fun h' x eb hx' => ?_)
    obtain ⟨o, ho, hcl⟩ := hx'
    refine wpAny_bind (wpAny_isInstance (T := "StopIteration") (b := true) ⟨o, ho, hcl⟩ isSubtype_stop ?_)
    exact wpAny_pure ⟨rfl, I.turned (t' := s.toks) (fun b o hb q => eb b o hb q) f0 f1 f3 f4 f5⟩
  self := fun A i s Q E st h => let ⟨⟨_, he⟩, _⟩ := st; wpAny_pyIter_enum he h
def iEnumT (K : PySem.W.Frag) (ta : TA) : TI := fun σ H R => ta σ H fun vs H1 => ∃ a xs, vs = [.ref a] ∧ SqT K H1 a xs ∧ R (IteT K 0 a) H1
theorem pi_enumT {X : Cx} {e : Expr} {ta : TA} {p pos tpos : Pos} {elts : List Expr} {kk : Nat} (hg : Gl X "enumerate") (hm : X.mg "enumerate" = none) (ha : PA X [e] ta) (hs : starEach [e] X.env = [(false, eval e X.env)] := by rfl) :
    PI X (.Tuple elts kk tpos) (.Call (.Name "enumerate" p) [e] [] pos) (iEnumT X.K ta) := by
  refine ⟨fun pins s σ H R I h => ?_⟩
  refine Call_ (ld_blt I hg hm boot_enumerate (PyProof.Rows.callWith_type1 (thn (ha.run pos pins s σ H _ I h) fun us s1 ⟨vs, H1, I1, r1, q1⟩ => ?_) hs rfl))
  obtain ⟨a, xs, ex, hq, q⟩ := q1
  subst ex
  cases r1 with
  | cons r rr =>
    cases rr
    cases r
    obtain ⟨its, rv, p', hz⟩ := I1.tuple hq
    refine call_enum1 (begins_tuple a its.toArray) p' fun h' he hit hk => wpAny_pyIter_enum he ?_
    have I2 : Inv X pins σ H1 { s1 with heap := h' } := I1.kept (t' := s1.toks) hk
    refine ⟨s1.heap.objs.size + 1, [s1.heap.objs.size + 1, s1.heap.objs.size], _, _, H1, rfl, I2, turn_enumT 0 a (s1.heap.objs.size + 1) s1.heap.objs.size, ⟨⟨.none, by simpa using he⟩, ⟨_, hit, rfl, rfl⟩, Nat.succ_ne_self _⟩, fun b hb => ?_, q⟩
    have hle : s1.heap.objs.size ≤ b := by
      rcases (by simpa using hb : b = s1.heap.objs.size + 1 ∨ b = s1.heap.objs.size) with z | z
      · rw [z]; exact Nat.le_add_right _ _
      · rw [z]; exact Nat.le_refl _
    exact I1.fpOk hle (I1.hok.fresh hle)

section
variable {M : Fr} {W : WX} {X : Cx} {k : Nat} {e : Expr} {pos : Pos}
@[simp] def fEnum : List D → Res (List D)
  | [.lst ds] => .ok (enumD 0 ds)
  | [.tup ds] => .ok (enumD 0 ds)
  | _ => .stuck
theorem pit_enum (c : CO M W k X) {p tpos : Pos} {elts : List Expr} {kk : Nat} {fs} (hm : X.mg "enumerate" = none) (ha : PA' M W X [e] fs) (hg : Gl X "enumerate" := by rfl) (hs : starEach [e] X.env = [(false, eval e X.env)] := by rfl) :
    PIt M W X (.Tuple elts kk tpos) (.Call (.Name "enumerate" p) [e] [] pos) (iCall fEnum fs) := by
  obtain ⟨⟨t, et, qt⟩, hl⟩ := ha
  refine ⟨_, pi_or (pi_enum hg hm et hs) (pi_enumT hg hm et hs), fun σ G H ε s Q hp => ?_⟩
  simp only [iCall] at hp
  cases e1 : fs ε with
  | stuck => rw [e1] at hp; exact hp.elim
  | err cc =>
    rw [e1] at hp
    refine .inl (qt σ G H ε s _ ?_)
    rw [e1]; exact hp
  | ok p =>
    rw [e1] at hp
    simp only [Res.bind_ok] at hp
    unfold fEnum at hp
    split at hp
    · rename_i ds ej
      refine .inl (qt σ G H ε s _ ?_)
      rw [e1]
      intro vs G1 H1 s1 st1 rs
      rw [ej] at rs
      obtain ⟨v, rfl, r⟩ := rpL1 rs
      obtain ⟨a, ws, rfl, ha, l⟩ := rp_lst.mp r
      refine ⟨a, ws, rfl, SqL.of (s1.sub _ _ ha), hp _ G1 H1 s1 st1 ?_⟩
      intro i G2 H2 s2 g2
      have hs : SqL X.K H2 a ws := SqL.of (s2.sub _ _ (g2 _ _ ha))
      refine ⟨fun d e => ?_, fun e => ⟨ws, hs, by rw [← l.length]; rw [enumD_len] at e; exact e⟩⟩
      obtain ⟨d0, e2, rfl⟩ := enumD_get ds 0 i d e
      obtain ⟨v, e3, r⟩ := l.get e2
      refine ⟨⟨ws, v, hs, e3⟩, fun x H' y => ?_⟩
      obtain ⟨T, x0, rfl, hT, rfl, y⟩ := y
      have ex := y ws hs
      rw [e3] at ex
      cases ex
      exact new_pair s2 hT (rp_int.mpr (by simp)) (r.mono g2)
    · rename_i ds ej
      refine .inr (qt σ G H ε s _ ?_)
      rw [e1]
      intro vs G1 H1 s1 st1 rs
      rw [ej] at rs
      obtain ⟨v, rfl, r⟩ := rpL1 rs
      obtain ⟨a, ws, rfl, ha, l⟩ := rp_tup.mp r
      rw [← c.hK] at ha
      refine ⟨a, ws, rfl, sqT_mono s1.sub ha, hp _ G1 H1 s1 st1 ?_⟩
      intro i G2 H2 s2 g2
      have hs : SqT X.K H2 a ws := sqT_mono s2.sub (sqT_mono g2 ha)
      refine ⟨fun d e => ?_, fun e => ⟨ws, hs, by rw [← l.length]; rw [enumD_len] at e; exact e⟩⟩
      obtain ⟨d0, e2, rfl⟩ := enumD_get ds 0 i d e
      obtain ⟨v, e3, r⟩ := l.get e2
      refine ⟨⟨ws, v, hs, e3⟩, fun x H' y => ?_⟩
      obtain ⟨T, x0, rfl, hT, rfl, y⟩ := y
      have ex := y ws hs
      rw [e3] at ex
      cases ex
      exact new_pair s2 hT (rp_int.mpr (by simp)) (r.mono g2)
    · exact hp.elim
end
end PL
/-! PL, part m: an owned list read as a value (it stays what it is from then on); a law's own def; what the top has. -/
namespace PL
open PySem PySem.Spec PyProof.Rows L2

@[reducible, simp] def eZ (i : Nat) : Ev → Res (D × Ev) := fun ε => match ε[i]? with
  | some (.pu d) => .ok (d, ε)
  | some (.ow ds) => .ok (.lst ds, ε.set i (.pu (.lst ds)))
  | _ => .stuck
theorem SR.frz {M : Fr} {G H : Hp} {σ : St} {ε : Ev} (s : SR M G H σ ε) {i : Nat} {ds : List D} {p : Addr} {vs : List V} (e : ε[i]? = some (.ow ds)) (eσ : σ[i]? = some (some (.ref p))) (gp : G p = none) (hp : H p = some (.lst vs)) (l : RpL M.F G ds vs) (hc : M.cp = none ∨ i ≠ 0) :
    SR M (upd G p (.lst vs)) H σ (ε.set i (.pu (.lst ds))) ∧ Step G H (Own σ ε) (upd G p (.lst vs)) H (Own σ (ε.set i (.pu (.lst ds)))) := by
  have hi : i < ε.length := (List.getElem?_eq_some_iff.mp e).1
  have mono : ∀ q o, G q = some o → upd G p (.lst vs) q = some o := fun q o h => by rw [upd_ne (ne_of_none h gp)]; exact h
  have old : ∀ j, j ≠ i → (ε.set i (Slot.pu (.lst ds)))[j]? = ε[j]? := fun j hj => List.getElem?_set_ne (Ne.symm hj)
  have ow : ∀ (j : Nat) (es : List D), (ε.set i (Slot.pu (.lst ds)))[j]? = some (.ow es) → j ≠ i ∧ ε[j]? = some (.ow es) := fun j es e1 => by
    by_cases hj : j = i
    · subst hj
      rw [List.getElem?_set_self hi] at e1
      cases e1
    · rw [old j hj] at e1
      exact ⟨hj, e1⟩
  refine ⟨⟨fun q o h => ?_, fun q ps h => ?_, s.tabs, by rw [List.length_set]; exact s.len, fun j x o e1 e2 => ?_, fun j l d1 d2 q e1 e2 e3 e4 => s.inj j l d1 d2 q (ow j d1 e1).2 (ow l d2 e2).2 e3 e4, fun q hq => ?_⟩, ⟨mono, fun q o h _ _ => h, fun q h => h, fun q o h => ?_, fun q ⟨j, es, e1, e2⟩ => .inl ⟨j, es, (ow j es e1).2, e2⟩⟩⟩
  · unfold upd at h
    split at h
    · rename_i z; subst z; rw [hp]; exact h
    · exact s.sub q o h
  · unfold upd at h
    split at h
    · cases h
    · exact s.ntb q ps h
  · by_cases hj : j = i
    · subst hj
      rw [List.getElem?_set_self hi] at e1
      rw [eσ] at e2
      cases e1
      cases e2
      exact ⟨.ref p, rfl, rp_lst.mpr ⟨p, vs, rfl, upd_same, l.mono mono⟩⟩
    · rw [old j hj] at e1
      have h := s.slots j x o e1 e2
      cases x with
      | em => trivial
      | pu d =>
        obtain ⟨v, ev, r⟩ := h
        exact ⟨v, ev, r.mono mono⟩
      | ow es =>
        obtain ⟨q, ws, eq, n, hq, r⟩ := h
        refine ⟨q, ws, eq, ?_, hq, r.mono mono⟩
        rw [upd_ne (fun z => hj (s.inj j i es ds p e1 e (by rw [e2, eq, z]) eσ))]
        exact n
  · obtain ⟨a, d, b⟩ := s.cup q hq
    have h0 : (0 : Nat) ≠ i := fun z => by
      rcases hc with y | y
      · rw [y] at hq; cases hq
      · exact y z.symm
    exact ⟨a, d, by rw [old 0 h0]; exact b⟩
  · unfold upd at h
    split at h
    · rename_i z; subst z; exact .inr (.inr ⟨i, ds, e, eσ⟩)
    · exact .inl h
section
variable {M : Fr} {W : WX} {X : Cx} {k : Nat} {pos : Pos}
theorem tr_frz (i : Nat) (hc : M.cp = none ∨ i ≠ 0) : Tr M W (Rp M.F) (tVar i) (eZ i) := by
  intro σ G H ε s Q hp
  simp only [eZ] at hp
  cases e : ε[i]? with
  | none => rw [e] at hp; exact hp.elim
  | some x =>
    rw [e] at hp
    cases x with
    | em => exact hp.elim
    | pu d =>
      obtain ⟨v, e2, r⟩ := s.pu e
      exact ⟨v, e2, hp v G H s (Step.refl ..) r⟩
    | ow ds =>
      obtain ⟨p, vs, ev, gp, hp', l⟩ := s.ow e
      obtain ⟨s2, st2⟩ := s.frz e ev gp hp' l hc
      have mono : ∀ q o, G q = some o → upd G p (.lst vs) q = some o := fun q o h => by rw [upd_ne (ne_of_none h gp)]; exact h
      exact ⟨.ref p, ev, hp (.ref p) _ H s2 st2 (rp_lst.mpr ⟨p, vs, rfl, upd_same, l.mono mono⟩)⟩
theorem pv_frz (i : Nat) {x : Str} (hc : M.cp = none ∨ i ≠ 0) (hN : X.N[i]? = some x := by rfl) (hv : Vis X.env.scope x := by first | exact Or.inl rfl | exact Or.inr (Or.inl rfl) | exact Or.inr (Or.inr rfl)) (hd : (x == ("__debug__" : Str)) = false := by decide)
    (hcd : (x == ("__classdict__" : Str)) = false := by decide) : PV M W X (.Name x pos) (eZ i) := ⟨_, pe_var hN hv hd hcd, tr_frz i hc⟩
/-- a constant of the module -/
def GlC (F : Fx) (mg : Str → Option Value) (x : Str) (d : D) : Prop := ∃ v u, mg x = some u ∧ RelV v u ∧ ∀ G, Rp F G d v
theorem pv_gl {x : Str} {d : D} (h : GlC M.F X.mg x d) (hg : Gl X x := by rfl) (hdb : (x == ("__debug__" : Str)) = false := by decide) : PV M W X (.Name x pos) (eC d) := by
  obtain ⟨v, u, hm, r, hd⟩ := h
  exact pv_glob hm r hd hg hdb
theorem glC_int {F : Fx} {mg : Str → Option Value} {x : Str} {i : Int} {t : Tok} (h : mg x = some (.int i t)) : GlC F mg x (.int i) := ⟨.int i, _, h, ⟨_, rfl⟩, fun _ => rp_int.mpr rfl⟩

/-- a def that the top has written, under this name -/
def FnC (K : PySem.W.Frag) (mg : Str → Option Value) (y x : Str) (st : Stmt) : Prop := ∃ f fd, Fun K x x st f fd ∧ mg y = some (.ref f)
end

theorem fnC_mk {K : PySem.W.Frag} {h : Heap} {mg : Str → Option Value} {y x : Str} {st : Stmt} {f : Addr} {oc : Value} {od an : Option Addr} {osl : Array (Option Value)} {kV doc pm cdv ct : Value} (X : K.In h) (G : h.Ns mainGlobals mg) (a : PySem.W.nsIn K mainGlobals y = some (some (.ref f)))
    (l : K.lookup f = some ⟨oc, od, .func (PySem.W.fnOf x x (defArgs st) (defBody st) (defScope st) .none kV doc pm an cdv ct), osl⟩) (c : PySem.W.codeIn K cdv x = true) (k : PySem.W.keepIn K (.ref f) = true) : FnC K mg y x st :=
  ⟨f, _, fun_mk l c k, PySem.W.mg_of X G a⟩
theorem errC_mk {K : PySem.W.Frag} {h : Heap} {mg : Str → Option Value} {x : Str} {C : Addr} (X : K.In h) (G : h.Ns mainGlobals mg) (a : PySem.W.nsIn K mainGlobals x = some (some (.ref C)))
    (ex : PySem.W.excIn K C [.type "ValueError", .type "Exception", .type "BaseException", .type "object"] "ValueError.__new__" = true) (kC : PySem.W.keepIn K (.ref C) = true) (bC : PySem.W.subIn K (.ref C) (.type "BaseException") = some true)
    (tC : PySem.W.typeIn K (.ref C) = some (.type "type")) : ∃ C, ErrC K mg x C := ⟨C, PySem.W.mg_of X G a, ex, kC, bC, tC⟩
theorem int_mk {F : Fx} {K : PySem.W.Frag} {h : Heap} {mg : Str → Option Value} {x : Str} {i : Int} {t : Tok} (X : K.In h) (G : h.Ns mainGlobals mg) (a : PySem.W.nsIn K mainGlobals x = some (some (.int i t))) : GlC F mg x (.int i) := glC_int (PySem.W.mg_of X G a)

/-! ### the law -/
def spL (K : PySem.W.Frag) : Sp := fun vs H Q _ => ∃ (a : Addr) (ns : List Int), vs = [.ref a] ∧ SqL K H a (ns.map V.int) ∧ ns.length ≤ 63 ∧ Only H ∧ ∀ H', Q (.bl true) H'
section
variable {P : Program} {w : World} {K : PySem.W.Frag} {mg : Str → Option Value} {base : Heap}
theorem fn_law {F : Fx} (hF : F.K = K) (hT : F.T = []) {x qual : Str} {st : Stmt} {f : Addr} {fd : FuncData} {N ps : List Str} {k : Nat} {body : Ev → Out} (Fu : Fun K x qual st f fd) (S : FnScope N ps (defScope st)) (hn : ps.length = 1) (hN : 1 ≤ N.length)
    (hb : ∀ (cdv : Value) (A : Around) (outer : List Env) (s : Shared) (H : Hp) (E : XK), CO ⟨F, none⟩ (WE0 E) k (cxOf (L2N.CX P w) P w K mg base N qual (defScope st) f cdv A outer s H E) → PSs' ⟨F, none⟩ (WE0 E) (cxOf (L2N.CX P w) P w K mg base N qual (defScope st) f cdv A outer s H E) (defBody st) body)
    (hg : ∀ ns : List Int, ns.length ≤ 63 → outRes (body (startE N.length [.scr ns])) = .ok (.bl true)) : FnOk P w K mg base (L2N.CX P w) (k + 1) f fd ps (spL K) := by
  refine Fu.okN S (fun vs H Q E ⟨a, ns, h, _⟩ => by rw [h, hn]; rfl) fun cdv A outer s H vs Q E hr h => ?_
  obtain ⟨a, ns, rfl, hS, hl, hO, q⟩ := h
  obtain ⟨t, et, qt⟩ := hb cdv A outer s H E (co_fn hF S hr)
  have h1 : ∀ q ps, H q ≠ some (.tbl ps) := fun q ps h => by
    rcases hO q with z | ⟨o, xs, z⟩
    · rw [z] at h; cases h
    · rw [z] at h; cases h
  have h2 : HG F H H := ⟨fun _ _ h => h, h1, by rw [hT]; exact fun t ht => by cases ht⟩
  have h3 : RpL F H [.scr ns] [.ref a] := RpL.cons (by simp only [Rp]; exact ⟨a, rfl, by rw [hF]; exact hS⟩) RpL.nil
  refine ⟨t, et, qt _ H H (startE N.length [.scr ns]) (sr_start h2 h3 (by simpa using hN)) _ ?_⟩
  have h4 := hg ns hl
  cases e : body (startE N.length [.scr ns]) with
  | nx ε' => rw [e] at h4; cases h4
  | rt d ε' =>
    rw [e] at h4
    simp only [outRes, Res.ok.injEq] at h4
    subst h4
    intro v σ' G' H' s' st' r
    rw [rp_bl] at r
    subst r
    exact q H'
  | err c => rw [e] at h4; cases h4
  | bk ε' => rw [e] at h4; cases h4
  | ct ε' => rw [e] at h4; cases h4
  | stuck => rw [e] at h4; cases h4
end
end PL
/-! PL, part n: a def that gives a new list. -/
namespace PL
open PySem PySem.Spec PyProof.Rows L2
/-- the promise of a def that gives a new list -/
def SpN (F : Fx) (n : Nat) (g : List D → Res (List D)) : Sp := fun vs H Q E => ∃ (ds : List D) (G : Hp), ds.length = n ∧ HG F G H ∧ RpL F G ds vs ∧ match g ds with
  | .ok es => ∀ a ws G' H', Grow G H G' H' → HG F G' H' → G' a = none → H' a = some (.lst ws) → RpL F G' es ws → H a = none → Q (.ref a) H'
  | _ => False
@[reducible] def eCallN (g : List D → Res (List D)) (fs : Ev → Res (List D × Ev)) : Ev → Res (List D × Ev) := fun ε => (fs ε).bind fun p => (g p.1).ne.bind fun d => .ok (d, p.2)
section
variable {M : Fr} {W : WX} {X : Cx} {k : Nat} {e : Expr} {es : List Expr} {pos : Pos}
theorem pn_call (c : CO M W k X) {x : Str} {k' n : Nat} {g : List D → Res (List D)} {p : Pos} {fs : Ev → Res (List D × Ev)} (d : DOk M.F X.prog X.w X.K X.mg X.base x k' n (SpN M.F n g)) (hk : k' ≤ k) (ha : PA' M W X (e :: es) fs) (hn : (e :: es).length = n := by rfl) (hg : Gl X x := by rfl) (hdb : (x == ("__debug__" : Str)) = false := by decide)
    (he : starEach (e :: es) X.env = (false, eval e X.env) :: starEach es X.env := by rfl) (hpl : (backTo pos (starEach es X.env)).any (·.1) = false := by rfl) :
    PN M W X (.Call (.Name x p) (e :: es) [] pos) (eCallN g fs) := by
  obtain ⟨f, fd, ps, F, gm, kp, b⟩ := d.ex
  obtain ⟨⟨t, et, qt⟩, hl⟩ := ha
  refine ⟨_, pe_callS F (c.hr.mono hk) hg gm kp b (fun σ => L2N.passAt c.tk σ) et hdb he hpl, fun σ G H ε s Q hp => ?_⟩
  refine qt σ G H ε s _ ?_
  simp only [eCallN] at hp
  cases e1 : fs ε with
  | stuck => rw [e1] at hp; exact hp
  | err c => rw [e1] at hp; exact hp
  | ok q =>
    rw [e1] at hp
    intro vs G1 H1 s1 st1 rs
    have hp1 : PostN M W σ G1 H1 q.2 ((g q.1).ne.bind fun d => .ok (d, q.2)) Q := PostN.shift s1 st1 hp
    refine ⟨q.1, G1, by rw [hl _ _ e1]; exact hn, s1.hg, rs, ?_⟩
    cases e2 : g q.1 with
    | stuck => rw [e2] at hp1; exact hp1
    | err cc =>
      rw [e2] at hp1
      exact hp1
    | ok d =>
      rw [e2] at hp1
      intro a ws G' H' gr hg' ga ha' r hn'
      have s2 := s1.grow gr hg'.sub hg'.ntb hg'.tabs
      exact hp1 a ws G' H' s2 (gr.step _) ga ha' r hn' fun z => by
        obtain ⟨_, us, y⟩ := s1.own z
        rw [hn'] at y; cases y
end
theorem newRet {f1 : Ev → Out} {f2 : Ev → Res (List D × Ev)} {ε : Ev} {es : List D} (h : (match f1 ε with
  | .nx ε1 => (f2 ε1).bind fun p => .ok p.1
  | _ => .stuck : Res (List D)) = .ok es) : ∃ ε1 ε2, f1 ε = .nx ε1 ∧ f2 ε1 = .ok (es, ε2) := by
  cases e : f1 ε with
  | nx ε1 =>
    rw [e] at h
    replace h : (f2 ε1).bind (fun p => .ok p.1) = .ok es := h
    cases e2 : f2 ε1 with
    | ok p =>
      rw [e2] at h
      cases h
      exact ⟨ε1, p.2, rfl, e2⟩
    | err c => rw [e2] at h; cases h
    | stuck => rw [e2] at h; cases h
  | _ => rw [e] at h; cases h
section
variable {P : Program} {w : World} {K : PySem.W.Frag} {mg : Str → Option Value} {base : Heap}
/-- name = e; return [..] -/
theorem fn_new {F : Fx} (hF : F.K = K) {x qual : Str} {st : Stmt} {f : Addr} {fd : FuncData} {N ps : List Str} {k n : Nat} {g : List D → Res (List D)} {st1 : Stmt} {e : Expr} {pos : Pos} {f1 : Ev → Out} {f2 : Ev → Res (List D × Ev)} (Fu : Fun K x qual st f fd) (S : FnScope N ps (defScope st)) (hn : ps.length = n) (hN : n ≤ N.length)
    (hst : defBody st = [st1, .Return (some e) pos])
    (hb : ∀ (cdv : Value) (A : Around) (outer : List Env) (s : Shared) (H : Hp) (E : XK), CO ⟨F, none⟩ (WE0 E) k (cxOf (L2N.CX P w) P w K mg base N qual (defScope st) f cdv A outer s H E) →
      PS' ⟨F, none⟩ (WE0 E) (cxOf (L2N.CX P w) P w K mg base N qual (defScope st) f cdv A outer s H E) st1 f1 ∧ PN ⟨F, none⟩ (WE0 E) (cxOf (L2N.CX P w) P w K mg base N qual (defScope st) f cdv A outer s H E) e f2)
    (hg : ∀ ds es, ds.length = n → g ds = .ok es → ∃ ε1 ε2, f1 (startE N.length ds) = .nx ε1 ∧ f2 ε1 = .ok (es, ε2)) : FnOk P w K mg base (L2N.CX P w) (k + 1) f fd ps (SpN F n g) := by
  refine Fu.okN S (fun vs H Q E ⟨ds, G, h1, h2, h3, _⟩ => by rw [← h3.length, h1, hn]) fun cdv A outer s H vs Q E hr h => ?_
  obtain ⟨ds, G, h1, h2, h3, h4⟩ := h
  obtain ⟨⟨t, et, qt⟩, ⟨u, eu, qu⟩⟩ := hb cdv A outer s H E (co_fn hF S hr)
  refine ⟨_, by rw [hst]; exact pss_cons et (pss_one (ps_ret eu)), ?_⟩
  refine qt _ G H (startE N.length ds) (sr_start h2 h3 (by omega)) _ ?_
  have grow : ∀ {G' H' : Hp} {O' : Addr → Prop}, Step G H (Own (L2.start N vs) (startE N.length ds)) G' H' O' → Grow G H G' H' := fun {G' H' O'} st =>
    ⟨st.gg, fun q o h nt => st.hh q o h nt (own_start (F := F)), st.hs, fun q o h => (st.gn q o h).elim .inl fun z => z.elim .inr fun z => (own_start (F := F) z).elim⟩
  cases e0 : g ds with
  | stuck => rw [e0] at h4; exact h4.elim
  | err c => rw [e0] at h4; exact h4.elim
  | ok es =>
    rw [e0] at h4
    obtain ⟨ε1, ε2, e1, e2⟩ := hg ds es h1 e0
    rw [e1]
    intro σ1 G1 H1 s1 st1
    refine qu σ1 G1 H1 ε1 s1 _ ?_
    rw [e2]
    intro a ws G2 H2 s2 st2 ga ha r nh no
    have stt := st1.trans s1.sub st2
    exact h4 a ws G2 H2 (grow stt) s2.hg ga ha r (st1.hs a nh)
end
end PL
/-! PL, part o: a, b, .. = e1, e2, .. by way of a real tuple, some of the values new lists. -/
namespace PL
open PySem PySem.Spec PyProof.Rows L2

def SlRel (F : Fx) (G H : Hp) (O : Addr → Prop) (H0 : Hp) : List Slot → List V → Prop
  | [], vs => vs = []
  | x :: xs, vs => ∃ v r, vs = v :: r ∧ NewOk F G H O x v ∧ (∀ ds q, x = .ow ds → v = .ref q → H0 q = none ∧ ∀ (j : Nat) es, xs[j]? = some (.ow es) → r[j]? = some (.ref q) → False) ∧ SlRel F G H O H0 xs r
theorem SlRel.length {F : Fx} {G H : Hp} {O : Addr → Prop} {H0 : Hp} : ∀ {xs : List Slot} {vs : List V}, SlRel F G H O H0 xs vs → xs.length = vs.length
  | [], vs, h => by simp only [SlRel] at h; rw [h]; rfl
  | x :: xs, vs, h => by
    simp only [SlRel] at h
    obtain ⟨v, r, rfl, _, _, l⟩ := h
    simp [l.length]
theorem SlRel.h0 {F : Fx} {G H : Hp} {O : Addr → Prop} {H0 H1 : Hp} (hs : ∀ q, H0 q = none → H1 q = none) : ∀ {xs : List Slot} {vs : List V}, SlRel F G H O H0 xs vs → SlRel F G H O H1 xs vs
  | [], vs, h => h
  | x :: xs, vs, h => by
    simp only [SlRel] at h ⊢
    obtain ⟨v, r, e, a, b, l⟩ := h
    exact ⟨v, r, e, a, fun ds q e1 e2 => ⟨hs _ (b ds q e1 e2).1, (b ds q e1 e2).2⟩, l.h0 hs⟩
theorem SlRel.fresh {F : Fx} {G H : Hp} {O : Addr → Prop} {H0 : Hp} : ∀ {xs : List Slot} {vs : List V} {j : Nat} {es : List D} {q : Addr}, SlRel F G H O H0 xs vs → xs[j]? = some (.ow es) → vs[j]? = some (.ref q) → H0 q = none
  | [], vs, j, es, q, h, e, _ => by simp at e
  | x :: xs, vs, 0, es, q, h, e, e2 => by
    simp only [SlRel] at h
    obtain ⟨v, r, rfl, a, b, l⟩ := h
    simp at e e2
    exact (b es q e e2).1
  | x :: xs, vs, j + 1, es, q, h, e, e2 => by
    simp only [SlRel] at h
    obtain ⟨v, r, rfl, a, b, l⟩ := h
    simp at e e2
    exact l.fresh e e2
def PSls (M : Fr) (W : WX) (X : Cx) (es : List Expr) (fs : Ev → Res (List Slot × Ev)) : Prop := ∃ t, PA X es t ∧ ∀ (σ : St) (G H : Hp) (ε : Ev), SR M G H σ ε → ∀ Q : List V → Hp → Prop,
  (match fs ε with
    | .ok p => ∀ vs G' H', SR M G' H' σ p.2 → Step G H (Own σ ε) G' H' (Own σ p.2) → SlRel M.F G' H' (Own σ p.2) H p.1 vs → Q vs H'
    | .err c => ErrOk M W G H (Own σ ε) c
    | .stuck => False) → t σ H Q
@[reducible, simp] def slsNil : Ev → Res (List Slot × Ev) := fun ε => .ok ([], ε)
@[reducible, simp] def slsCons (fa : Ev → Res (Slot × Ev)) (fs : Ev → Res (List Slot × Ev)) : Ev → Res (List Slot × Ev) := fun ε => (fa ε).bind fun p => (fs p.2).bind fun q => .ok (p.1 :: q.1, q.2)
section
variable {M : Fr} {W : WX} {X : Cx} {k : Nat} {a : Expr} {es : List Expr} {pos : Pos}
theorem psls_nil : PSls M W X [] slsNil := ⟨_, L2.pa_nil, fun σ G H ε s Q hp => hp [] G H s (Step.refl ..) (by simp only [SlRel])⟩
theorem psls_cons {fa : Ev → Res (Slot × Ev)} {fs : Ev → Res (List Slot × Ev)} (ha : PSl M W X a fa) (hs : PSls M W X es fs) (h1 : starEach (a :: es) X.env = (false, eval a X.env) :: starEach es X.env := by rfl) : PSls M W X (a :: es) (slsCons fa fs) := by
  obtain ⟨ta, ea, qa⟩ := ha
  obtain ⟨ts, et, qs⟩ := hs
  refine ⟨_, L2.pa_cons ea et h1, fun σ G H ε s Q hp => ?_⟩
  refine qa σ G H ε s _ ?_
  simp only [slsCons] at hp
  cases e1 : fa ε with
  | stuck => rw [e1] at hp; exact hp
  | err c => rw [e1] at hp; exact hp
  | ok p =>
    rw [e1] at hp
    simp only [Res.bind_ok] at hp
    intro v G1 H1 s1 st1 r1 n1
    refine qs σ G1 H1 p.2 s1 _ ?_
    cases e2 : fs p.2 with
    | stuck => rw [e2] at hp; exact hp
    | err c => rw [e2] at hp; exact ErrOk.shift s1.sub st1 hp
    | ok q =>
      rw [e2] at hp
      simp only [Res.bind_ok] at hp
      intro vs G2 H2 s2 st2 r2
      refine hp (v :: vs) G2 H2 s2 (st1.trans s1.sub st2) ?_
      simp only [SlRel]
      refine ⟨v, vs, rfl, r1.step s2 st2, fun ds z e3 e4 => ⟨n1 ds z e3 e4, fun j es' e5 e6 => ?_⟩, r2.h0 st1.hs⟩
      exact r1.there e3 e4 (r2.fresh e5 e6)

def setV (σ : St) : List Nat → List V → St
  | i :: is, v :: vs => setV (σ.set i (some v)) is vs
  | _, _ => σ
@[simp] def setS (ε : Ev) : List Nat → List Slot → Ev
  | i :: is, x :: xs => setS (ε.set i x) is xs
  | _, _ => ε
theorem SR.setAll {G H H0 : Hp} : ∀ {is : List Nat} {xs : List Slot} {vs : List V} {σ : St} {ε : Ev}, SR M G H σ ε → is.length = xs.length → (∀ i ∈ is, i < ε.length) → SlRel M.F G H (Own σ ε) H0 xs vs → (M.cp = none ∨ 0 ∉ is) →
    SR M G H (setV σ is vs) (setS ε is xs) ∧ ∀ q, Own (setV σ is vs) (setS ε is xs) q → Own σ ε q ∨ H0 q = none
  | [], xs, vs, σ, ε, s, hl, _, r, _ => by
    cases xs with
    | nil => exact ⟨s, fun q z => .inl z⟩
    | cons x xs => cases hl
  | i :: is, [], vs, σ, ε, s, hl, _, r, _ => by cases hl
  | i :: is, x :: xs, vs, σ, ε, s, hl, hi, r, hc => by
    simp only [SlRel] at r
    obtain ⟨v, vr, rfl, r1, n1, rr⟩ := r
    obtain ⟨s2, o2⟩ := s.setNew (hi i List.mem_cons_self) r1 (hc.imp id fun h z => h (by rw [z]; exact List.mem_cons_self))
    have keep : ∀ {xs' : List Slot} {vs' : List V}, (∀ ds q, x = .ow ds → v = .ref q → ∀ (j : Nat) es, xs'[j]? = some (.ow es) → vs'[j]? = some (.ref q) → False) → SlRel M.F G H (Own σ ε) H0 xs' vs' → SlRel M.F G H (Own (σ.set i (some v)) (ε.set i x)) H0 xs' vs' := by
      intro xs'
      induction xs' with
      | nil => intro vs' _ h; exact h
      | cons y ys ih =>
        intro vs' hd h
        simp only [SlRel] at h ⊢
        obtain ⟨u, ur, rfl, a, b, l⟩ := h
        refine ⟨u, ur, rfl, a.set o2 (fun ds es z h1 h2 h3 h4 => hd es z h3 h4 0 ds (by simp [h1]) (by simp [h2])), b, ih (fun ds q e1 e2 j es e3 e4 => hd ds q e1 e2 (j + 1) es (by simpa using e3) (by simpa using e4)) l⟩
    obtain ⟨s3, o3⟩ := SR.setAll (is := is) s2 (by simpa using hl) (fun j hj => by rw [List.length_set]; exact hi j (List.mem_cons_of_mem _ hj)) (keep (fun ds q e1 e2 => (n1 ds q e1 e2).2) rr) (hc.imp id fun h z => h (List.mem_cons_of_mem _ z))
    refine ⟨s3, fun q z => ?_⟩
    rcases o3 q z with y | y
    · rcases o2 q y with y | ⟨⟨ds, y⟩, y2⟩
      · exact .inl y
      · exact .inr (n1 ds q y y2).1
    · exact .inr y
/-- names alone as targets -/
def PNs (X : Cx) (tgs : List Expr) (is : List Nat) : Prop := tgs.length = is.length ∧ ∃ g, PGs X tgs g ∧ ∀ (vs : List V) (σ : St) (H : Hp) (Q : St → Hp → Prop), vs.length = is.length → Q (setV σ is vs) H → g vs σ H Q
theorem pns_nil : PNs X [] [] := ⟨rfl, _, pgs_nil, fun vs σ H Q h q => by
  cases vs with
  | nil => exact ⟨rfl, q⟩
  | cons v vs => cases h⟩
theorem pns_cons {i : Nat} {x : Str} {es : List Expr} {is : List Nat} (hN : X.N.Nodup) (h : PNs X es is) (hi : X.N[i]? = some x := by rfl) (hx : Loc X.env.scope x := by first | exact Or.inl rfl | exact Or.inr rfl) (hf : X.fn x = true ∨ X.env.scope.names.lookup x = some .local := by first | exact .inl rfl | exact .inr rfl | assumption)
    (hs : (assignEach (.Name x pos :: es) X.env).map (·.2) = assign (.Name x pos) X.env :: (assignEach es X.env).map (·.2) := by rfl) : PNs X (.Name x pos :: es) (i :: is) := by
  obtain ⟨hl, g, p, q⟩ := h
  refine ⟨by simp [hl], _, pgs_cons (pg_name hN hi hx hf) p hs, fun vs σ H Q h hq => ?_⟩
  cases vs with
  | nil => cases h
  | cons v vs => exact ⟨v, vs, rfl, q vs _ H Q (by simpa using h) hq⟩
@[reducible, simp] def sParT (is : List Nat) (fs : Ev → Res (List Slot × Ev)) : Ev → Out := fun ε => (fs ε).out fun p => if is.length = p.1.length ∧ is.all (fun i => decide (i < p.2.length)) = true then .nx (setS p.2 is p.1) else .stuck
theorem ps_parT' (c : CO M W k X) {tgs : List Expr} {is : List Nat} {kt k2 : Nat} {pt pt2 : Pos} {fs : Ev → Res (List Slot × Ev)} (hs : PSls M W X es fs) (hg : PNs X tgs is) (hc : M.cp = none ∨ 0 ∉ is) (hlen : is.length ≤ 1000 := by decide)
    (hsw : swapsWithSole [.Tuple tgs kt pt] (.Tuple es k2 pt2) pos.line X.env = pure false := by rfl) (hw : swappedStores [.Tuple tgs kt pt] (.Tuple es k2 pt2) X.env = pure none := by rfl)
    (h1 : (assignEach [.Tuple tgs kt pt] X.env).map (·.2) = [assign (.Tuple tgs kt pt) X.env] := by rfl) (hn : (assignEach tgs X.env).length = is.length := by rfl) (hst : (assignEach tgs X.env).findIdx? (·.1) = none := by rfl) :
    PS' M W X (.Assign [.Tuple tgs kt pt] (.Tuple es k2 pt2) pos) (sParT is fs) := by
  obtain ⟨t, et, qt⟩ := hs
  obtain ⟨hl, g, pg, qg⟩ := hg
  refine ⟨_, ps_asg (pe_tup et) (pg_tup c.calm pg hn hst) hsw hw h1, fun σ G H ε s E hp => ?_⟩
  refine qt σ G H ε s _ ?_
  simp only [sParT] at hp
  cases e1 : fs ε with
  | stuck => simp only [e1, Res.out] at hp; exact hp
  | err c => simp only [e1, Res.out] at hp; exact hp
  | ok p =>
    simp only [e1, Res.out] at hp
    intro vs G1 H1 s1 st1 r1
    split at hp
    · rename_i hh
      have hv : vs.length = is.length := by rw [← r1.length]; exact hh.1.symm
      refine ⟨by rw [hv]; exact Nat.le_of_lt (small1000 hlen), fun T hT => ?_⟩
      obtain ⟨s2, st2, gT, noT⟩ := s1.newH (o := .tup vs) hT
      refine ⟨T, vs, rfl, .inl (.inl upd_same), hv, qg vs σ _ _ hv ?_⟩
      have r2 : SlRel M.F G1 (upd H1 T (.tup vs)) (Own σ p.2) H p.1 vs := by
        have go : ∀ {xs : List Slot} {ws : List V}, SlRel M.F G1 H1 (Own σ p.2) H xs ws → SlRel M.F G1 (upd H1 T (.tup vs)) (Own σ p.2) H xs ws := by
          intro xs
          induction xs with
          | nil => intro ws h; exact h
          | cons y ys ih =>
            intro ws h
            simp only [SlRel] at h ⊢
            obtain ⟨u, ur, rfl, a, b, l⟩ := h
            exact ⟨u, ur, rfl, a.step s2 st2, b, ih l⟩
        exact go r1
      obtain ⟨s3, o3⟩ := s2.setAll hh.1 (fun i hi => of_decide_eq_true (List.all_eq_true.mp hh.2 i hi)) r2 hc
      have st := st1.trans s1.sub st2
      refine hp _ G1 _ s3 ⟨st.gg, st.hh, st.hs, st.gn, fun q z => ?_⟩
      rcases o3 q z with y | y
      · exact st.oo q y
      · exact .inr y
    · exact hp.elim
end
end PL
/-! PL, part p: plain readings of the mirrors: portions, loops. -/
namespace PL
open PySem L2
@[simp] theorem isi1 (v : Int) : fIsi "int" [.int v] = .ok (.bl true) := by
  have h : kitB "int" "int" = some true := by decide +kernel
  simp [fIsi, tyName, h]
@[simp] theorem isi2 (v : Int) : fIsi "bool" [.int v] = .ok (.bl false) := by
  have h : kitB "int" "bool" = some false := by decide +kernel
  simp [fIsi, tyName, h]
@[simp] theorem isi3 (v : List D) : fIsi "tuple" [.tup v] = .ok (.bl true) := by
  have h : kitB "tuple" "tuple" = some true := by decide +kernel
  simp [fIsi, tyName, h]
abbrev Q := Nat × Nat
def qd (q : Q) : D := .tup [.int (q.1 : Int), .int (q.2 : Int)]
/-- lowest terms, small, a chance of 60 figures -/
def pok (q : Q) : Bool := decide (q.1 ≤ 10 ^ 60) && decide (1 ≤ q.2) && decide (q.2 ≤ 10 ^ 60) && (Nat.gcd q.1 q.2 == 1)
theorem okq_int (x : Int) (n : Nat) : D.okq (n + 1) (.int x) = true := by simp [D.okq]
theorem okq_q (a : Q) (n : Nat) : D.okq (n + 2) (qd a) = true := by simp [qd, D.okq, D.okqL]
theorem okqL_q (n : Nat) : ∀ xs : List Q, D.okqL (n + 2) (xs.map qd) = true
  | [] => by simp [D.okqL]
  | x :: xs => by simp [D.okqL, okq_q, okqL_q n xs]
theorem dEq_int (a b : Int) : dEq (.int a) (.int b) = .ok (.bl (decide (a = b))) := by
  simp [dEq, okq_int _ 19, dEqv, D.pyd, PyData.eqv]
  by_cases h : a = b <;> simp [h]
theorem dNe_int (a b : Int) : dNe (.int a) (.int b) = .ok (.bl (!decide (a = b))) := by
  simp [dNe, okq_int _ 19, dEqv, D.pyd, PyData.eqv]
  by_cases h : a = b <;> simp [h]
theorem eqv_q (a b : Q) : PyData.eqv (qd a).pyd (qd b).pyd = decide (a = b) := by
  obtain ⟨a1, a2⟩ := a
  obtain ⟨b1, b2⟩ := b
  simp only [qd, D.pyd, D.pydL, PyData.eqv, PyData.eqvAll, Prod.mk.injEq, Bool.and_true]
  have e : ∀ x y : Nat, ((x : Int) == (y : Int)) = decide (x = y) := fun x y => by
    by_cases h : x = y
    · subst h; simp
    · have h2 : ¬ (x : Int) = (y : Int) := by omega
      simp [h, h2]
  rw [e, e]
  by_cases h1 : a1 = b1 <;> by_cases h2 : a2 = b2 <;> simp [h1, h2]
theorem eqvL_q : ∀ xs ys : List Q, PyData.eqvAll (D.pydL (xs.map qd)) (D.pydL (ys.map qd)) = decide (xs = ys)
  | [], [] => by simp [D.pydL, PyData.eqvAll]
  | [], y :: ys => by simp [D.pydL, PyData.eqvAll]
  | x :: xs, [] => by simp [D.pydL, PyData.eqvAll]
  | x :: xs, y :: ys => by
    simp only [List.map_cons, D.pydL, PyData.eqvAll, eqv_q, eqvL_q xs ys, List.cons.injEq]
    by_cases h1 : x = y <;> by_cases h2 : xs = ys <;> simp [h1, h2]
theorem dEq_q (a b : Q) : dEq (qd a) (qd b) = .ok (.bl (decide (a = b))) := by simp only [dEq, dEqv, eqv_q, okq_q _ 18, Bool.and_self, if_true]
theorem dNe_q (a b : Q) : dNe (qd a) (qd b) = .ok (.bl (!decide (a = b))) := by simp only [dNe, dEqv, eqv_q, okq_q _ 18, Bool.and_self, if_true]
theorem dEq_tq (a b : List Q) : dEq (.tup (a.map qd)) (.tup (b.map qd)) = .ok (.bl (decide (a = b))) := by
  have h : ∀ xs : List Q, D.okq 20 (.tup (xs.map qd)) = true := fun xs => by
    simp [D.okq]; exact okqL_q _ xs
  simp only [dEq, dEqv, h, Bool.and_self, if_true, D.pyd, PyData.eqv, eqvL_q]
theorem dNe_tq (a b : List Q) : dNe (.tup (a.map qd)) (.tup (b.map qd)) = .ok (.bl (!decide (a = b))) := by
  have h : ∀ xs : List Q, D.okq 20 (.tup (xs.map qd)) = true := fun xs => by
    simp [D.okq]; exact okqL_q _ xs
  simp only [dNe, dEqv, h, Bool.and_self, if_true, D.pyd, PyData.eqv, eqvL_q]
def big : Nat := 2 ^ 2000
def sm (x : Nat) : Bool := Nat.blt x big
theorem sm_log {x : Nat} (h : sm x = true) : x.log2 < 2000 := by
  unfold sm at h
  have h2 : x < 2 ^ 2000 := by
    have := Nat.blt_eq.mp h
    exact this
  by_cases h0 : x = 0
  · subst h0; decide
  · exact (Nat.log2_lt h0).mpr h2
theorem mulOk_sm {x y : Nat} (h1 : sm x = true) (h2 : sm y = true) : mulOk (x : Int) (y : Int) = true := by
  have a := sm_log h1
  have b := sm_log h2
  simp only [mulOk, Int.natAbs_natCast, Bool.or_eq_true, decide_eq_true_eq]
  exact .inl (.inl (by omega))
def lowN (t b : Nat) : Q := (t / Nat.gcd t b, b / Nat.gcd t b)
def plusN (x y : Q) : Option Q := if sm x.1 && sm x.2 && sm y.1 && sm y.2 && Nat.blt 0 (x.2 * y.2) then some (lowN (x.1 * y.2 + y.1 * x.2) (x.2 * y.2)) else none
def timesN (x y : Q) : Option Q := if sm x.1 && sm x.2 && sm y.1 && sm y.2 && Nat.blt 0 (x.2 * y.2) then some (lowN (x.1 * y.1) (x.2 * y.2)) else none
def quotN (x y : Q) : Option Q := if sm x.1 && sm x.2 && sm y.1 && sm y.2 && Nat.blt 0 (x.2 * y.1) then some (lowN (x.1 * y.2) (x.2 * y.1)) else none
theorem log_sm {x y : Nat} (h0 : 0 < x * y) (h1 : sm x = true) (h2 : sm y = true) : (x * y).log2 < 9000 := by
  have a := Nat.blt_eq.mp h1
  have b := Nat.blt_eq.mp h2
  rw [Nat.log2_lt (by omega)]
  have c : x * y < 2 ^ 2000 * 2 ^ 2000 := Nat.mul_lt_mul'' a b
  rw [← Nat.pow_add] at c
  exact Nat.lt_of_lt_of_le c (Nat.pow_le_pow_right (by decide) (by decide))

/-! ### loops -/
/-- what a slot holds by the way -/
@[reducible] def jk : Option D → Slot
  | none => .em
  | some d => .pu d
theorem zipD_map {α β : Type} (f : α → D) (g : β → D) : ∀ (xs : List α) (ys : List β), zipD (xs.map f) (ys.map g) = (xs.zip ys).map fun p => .tup [f p.1, g p.2]
  | [], _ => by simp [zipD]
  | _ :: _, [] => by simp [zipD]
  | x :: xs, y :: ys => by simp [zipD, zipD_map f g xs ys]
theorem enumD_map {α : Type} (f : α → D) : ∀ (xs : List α) (n : Nat), enumD n (xs.map f) = (xs.zipIdx n).map fun p => .tup [.int (p.2 : Int), f p.1]
  | [], _ => by simp [enumD]
  | x :: xs, n => by simp [enumD, enumD_map f xs (n + 1)]
theorem cutD_drop (ds : List D) (k : Nat) : cutD ds (some (k : Int)) none = ds.drop k := by
  unfold cutD
  rw [HT.sIx_nat, HT.sIx_none]
  by_cases h : k ≤ ds.length
  · rw [Nat.min_eq_left h, List.take_of_length_le (by simp)]
  · rw [Nat.min_eq_right (by omega)]
    simp
    omega
theorem cutD_take (ds : List D) (k : Nat) : cutD ds none (some (k : Int)) = ds.take k := by
  unfold cutD
  rw [HT.sIx_nat, HT.sIx_none]
  simp only [List.drop_zero, Nat.sub_zero]
  by_cases h : k ≤ ds.length
  · rw [Nat.min_eq_left h]
  · rw [Nat.min_eq_right (by omega), List.take_of_length_le (Nat.le_refl _), List.take_of_length_le (by omega)]
theorem cutD_from (ds : List D) (k m : Nat) : cutD ds (some (k : Int)) (some (m : Int)) = (ds.take m).drop k := by
  unfold cutD
  rw [HT.sIx_nat, HT.sIx_nat, List.drop_take]
  by_cases h : k ≤ ds.length
  · rw [Nat.min_eq_left h]
    by_cases h2 : m ≤ ds.length
    · rw [Nat.min_eq_left h2]
    · rw [Nat.min_eq_right (by omega), List.take_of_length_le (by simp), List.take_of_length_le (by simp; omega)]
  · rw [show min k ds.length = ds.length from Nat.min_eq_right (by omega), List.drop_eq_nil_of_le (Nat.le_refl ds.length), List.drop_eq_nil_of_le (show ds.length ≤ k by omega)]
    simp
theorem fRange1 {j : Int} {k : Nat} (h : j = (k : Int)) (hk : k ≤ 1000000) : fRange [.int j] = .ok ((List.range k).map fun i : Nat => D.int (i : Int)) := by
  subst h
  show (if Nat.ble (k : Int).natAbs 1000000000 = true then Res.ok (rgD 0 (k : Int).toNat) else .stuck) = _
  rw [if_pos (Nat.ble_eq.mpr (by omega))]
  simp [rgD]
theorem fRange2 {i j : Int} {a k : Nat} (h : i = (a : Int)) (h2 : j = ((a + k : Nat) : Int)) (hk : a + k ≤ 1000000) : fRange [.int i, .int j] = .ok ((List.range k).map fun t : Nat => D.int ((a + t : Nat) : Int)) := by
  subst h
  subst h2
  show (if (Nat.ble (a : Int).natAbs 1000000000 && Nat.ble ((a + k : Nat) : Int).natAbs 1000000000) = true then Res.ok (rgD (a : Int) (((a + k : Nat) : Int) - (a : Int)).toNat) else .stuck) = _
  rw [if_pos (by rw [Nat.ble_eq.mpr (show (a : Int).natAbs ≤ 1000000000 by omega), Nat.ble_eq.mpr (show ((a + k : Nat) : Int).natAbs ≤ 1000000000 by omega)]; rfl), show (((a + k : Nat) : Int) - (a : Int)).toNat = k by omega]
  simp [rgD]
theorem iCall_ok {g : List D → Res (List D)} {fs : Ev → Res (List D × Ev)} {ε ε1 : Ev} {ds ys : List D} (h1 : fs ε = .ok (ds, ε1)) (h2 : g ds = .ok ys) : iCall g fs ε = .ok (ys, ε1) := by
  simp only [iCall, h1, Res.bind_ok, h2]
theorem sSeq_nx {f g : Ev → Out} {ε ε1 : Ev} (h : f ε = .nx ε1) : sSeq f g ε = g ε1 := by simp only [sSeq, h, Out.andThen]
theorem sRet_L {f : Ev → Res (List D × Ev)} {ε ε1 : Ev} {ds : List D} (h : f ε = .ok (ds, ε1)) : sRet (eL f) ε = .rt (.lst ds) ε1 := by simp only [sRet, eL, h, Res.bind_ok, Res.out]
theorem sRet_v {f : Ev → Res (D × Ev)} {ε ε1 : Ev} {d : D} (h : f ε = .ok (d, ε1)) : sRet f ε = .rt d ε1 := by simp only [sRet, h, Res.out]
theorem out_seq {f g : Ev → Out} {ε ε1 : Ev} {r : Res D} (h : f ε = .nx ε1) (h2 : outRes (g ε1) = r) : outRes (sSeq f g ε) = r := by rw [sSeq_nx h]; exact h2
theorem out_retL {f : Ev → Res (List D × Ev)} {ε ε1 : Ev} {ds : List D} (h : f ε = .ok (ds, ε1)) : outRes (sRet (eL f) ε) = .ok (.lst ds) := by rw [sRet_L h]
theorem out_ret {f : Ev → Res (D × Ev)} {ε ε1 : Ev} {d : D} (h : f ε = .ok (d, ε1)) : outRes (sRet f ε) = .ok d := by rw [sRet_v h]
theorem pick_go {α : Type} : ∀ (xs ys : List α), pick (List.range' ys.length xs.length) (ys ++ xs) = xs
  | [], ys => rfl
  | x :: xs, ys => by
    have h := pick_go xs (ys ++ [x])
    unfold pick at h ⊢
    rw [List.length_cons, List.range'_succ, List.filterMap_cons]
    have e : (ys ++ x :: xs)[ys.length]? = some x := by simp
    rw [e]
    simp only [List.length_append, List.length_singleton, List.append_assoc, List.singleton_append] at h
    rw [h]
theorem pick_all {α : Type} (xs : List α) : pick (List.range xs.length) xs = xs := by
  have h := pick_go xs []
  rw [List.range_eq_range']
  simpa using h
theorem pick_rev {α : Type} (xs : List α) : pick (List.range xs.length).reverse xs = xs.reverse := by
  have h := pick_all xs
  unfold pick at h ⊢
  rw [List.filterMap_reverse, h]
theorem pick_rev1 {α : Type} (xs : List α) : pick ((List.range xs.length).drop 1).reverse xs = (xs.drop 1).reverse := by
  cases xs with
  | nil => rfl
  | cons x xs =>
    have h := pick_go xs [x]
    unfold pick at h ⊢
    rw [List.filterMap_reverse, List.length_cons, List.range_eq_range', List.range'_succ, List.drop_one, List.tail_cons, List.drop_one, List.tail_cons]
    simp only [List.length_singleton, List.singleton_append] at h
    rw [Nat.zero_add, h]
theorem bIxL_all : ∀ n, n < 60 → bIxL none none n = (List.range n).reverse := by decide +kernel
theorem bIxL_down : ∀ n, n < 60 → bIxL none (some 0) n = ((List.range n).drop 1).reverse := by decide +kernel
theorem back_all {ds : List D} (h : ds.length < 60) : dBack (.lst ds) none none = .ok (.lst ds.reverse) := by
  simp only [dBack, bIxL_all _ h, List.length_reverse, List.length_range, pick_rev]
  rw [if_pos ⟨by omega, by omega⟩]
theorem back_down {ds : List D} (h : ds.length < 60) : dBack (.lst ds) none (some 0) = .ok (.lst (ds.drop 1).reverse) := by
  simp only [dBack, bIxL_down _ h, List.length_reverse, List.length_drop, List.length_range, pick_rev1]
  rw [if_pos ⟨by omega, by omega⟩]
theorem cutD_init (ds : List D) : cutD ds none (some (-1)) = ds.dropLast := by
  unfold cutD
  rw [HT.sIx_none]
  have e : HT.sIx ds.length ds.length (some (-1)) = ds.length - 1 := by
    show (if (-1 : Int) < 0 then ((-1 : Int) + (ds.length : Int)).toNat else min (-1 : Int).toNat ds.length) = _
    rw [if_pos (by decide)]
    omega
  rw [e, List.drop_zero, Nat.sub_zero, List.dropLast_eq_take]
def foldO {α ι : Type} (φ : α → ι → Option α) : List ι → α → Option α
  | [], a => some a
  | x :: xs, a => match φ a x with
    | some b => foldO φ xs b
    | none => none
def mapO {ι γ : Type} (φ : ι → Option γ) : List ι → Option (List γ)
  | [] => some []
  | x :: xs => match φ x with
    | some c => match mapO φ xs with
      | some cs => some (c :: cs)
      | none => none
    | none => none
/-- for: a fold over known things; β the junk of the slots -/
theorem forF_fold {α β ι : Type} {tgt : D → Ev → Res Ev} {body : Ev → Out} {it : ι → D} {φ : α → ι → Option α} {st : α → β → Ev}
    (h : ∀ a b j a', φ a j = some a' → ∃ ε1, tgt (it j) (st a b) = .ok ε1 ∧ ∃ b', body ε1 = .nx (st a' b')) : ∀ (xs : List ι) (a a' : α) (b : β), foldO φ xs a = some a' → ∃ b', forF tgt body (xs.map it) (st a b) = .nx (st a' b')
  | [], a, a', b, e => by
    simp only [foldO, Option.some.injEq] at e
    subst e
    exact ⟨b, rfl⟩
  | x :: xs, a, a', b, e => by
    simp only [foldO] at e
    cases e1 : φ a x with
    | none => rw [e1] at e; cases e
    | some a1 =>
      rw [e1] at e
      replace e : foldO φ xs a1 = some a' := e
      obtain ⟨ε1, t1, b1, t2⟩ := h a b x a1 e1
      obtain ⟨b2, t3⟩ := forF_fold h xs a1 a' b1 e
      refine ⟨b2, ?_⟩
      simp only [List.map_cons, forF, t1, Res.ne, t2, t3]
/-- a loop that ends at the first that is so -/
theorem forF_find {ι β : Type} {tgt : D → Ev → Res Ev} {body : Ev → Out} {it : ι → D} {p : ι → Bool} {out : ι → D} {st : β → Ev} : ∀ (xs : List ι), (∀ j ∈ xs, ∀ b, ∃ ε1, tgt (it j) (st b) = .ok ε1 ∧ ∃ b', body ε1 = if p j then .rt (out j) (st b') else .nx (st b')) → ∀ b, ∃ b', forF tgt body (xs.map it) (st b) = match xs.find? p with
    | some j => .rt (out j) (st b')
    | none => .nx (st b')
  | [], _, b => ⟨b, rfl⟩
  | x :: xs, h, b => by
    obtain ⟨ε1, t1, b1, t2⟩ := h x List.mem_cons_self b
    cases hp : p x with
    | true =>
      refine ⟨b1, ?_⟩
      simp only [List.map_cons, forF, t1, Res.ne, t2, hp, if_true, List.find?_cons]
    | false =>
      obtain ⟨b2, t3⟩ := forF_find xs (fun j hj => h j (List.mem_cons_of_mem _ hj)) b1
      refine ⟨b2, ?_⟩
      simp only [List.map_cons, forF, t1, Res.ne, t2, hp, Bool.false_eq_true, if_false, List.find?_cons, t3]
theorem sFor_fold {α β ι : Type} {src : Ev → Res (List D × Ev)} {tgt : D → Ev → Res Ev} {body : Ev → Out} (it : ι → D) (φ : α → ι → Option α) (st : α → β → Ev) {ε ε1 : Ev} {ys : List D} {xs : List ι} {a a' : α} {b : β} (hf : foldO φ xs a = some a') (hs : src ε = .ok (ys, ε1)) (hy : ys = xs.map it) (hε : ε1 = st a b)
    (h : ∀ a b j a', φ a j = some a' → ∃ ε1, tgt (it j) (st a b) = .ok ε1 ∧ ∃ b', body ε1 = .nx (st a' b')) : ∃ b', sFor src tgt body ε = .nx (st a' b') := by
  obtain ⟨b', e⟩ := forF_fold h xs a a' b hf
  refine ⟨b', ?_⟩
  simp only [sFor, hs, Res.out, hy, hε, e]
/-- [.. for ..] over known things -/
theorem loopC_map {ι γ : Type} {vs : List Nat} {blk : D → Ev → Res (Option D × Ev)} {it : ι → D} {φ : ι → Option γ} {out : γ → D} {ε : Ev} (hn : noOw ε vs = true) (h : ∀ j c, φ j = some c → blk (it j) ε = .ok (some (out c), ε)) : ∀ (xs : List ι) (cs : List γ) (acc : List D), mapO φ xs = some cs →
    loopC vs blk (xs.map it) ε acc = .ok (acc ++ cs.map out, ε)
  | [], cs, acc, e => by
    simp only [mapO, Option.some.injEq] at e
    subst e
    simp [loopC]
  | x :: xs, cs, acc, e => by
    simp only [mapO] at e
    cases e1 : φ x with
    | none => rw [e1] at e; cases e
    | some c =>
      rw [e1] at e
      simp only at e
      cases e2 : mapO φ xs with
      | none => rw [e2] at e; cases e
      | some cs' =>
        rw [e2] at e
        simp only [Option.some.injEq] at e
        subst e
        have t := loopC_map hn h xs cs' (acc ++ [out c]) e2
        simp only [List.map_cons, loopC, hn, if_true, h x c e1, Res.ne, Res.bind_ok, accD, t, List.append_assoc, List.singleton_append]
/-- .. with a test -/
theorem loopC_filter {ι : Type} {vs : List Nat} {blk : D → Ev → Res (Option D × Ev)} {it : ι → D} {p : ι → Bool} {out : ι → D} {ε : Ev} (hn : noOw ε vs = true) : ∀ (xs : List ι) (acc : List D), (∀ j ∈ xs, blk (it j) ε = .ok (if p j then some (out j) else none, ε)) →
    loopC vs blk (xs.map it) ε acc = .ok (acc ++ (xs.filter p).map out, ε)
  | [], acc, _ => by simp [loopC]
  | x :: xs, acc, h => by
    have t := loopC_filter hn (p := p) (out := out) xs (accD acc (if p x then some (out x) else none)) (fun j hj => h j (List.mem_cons_of_mem _ hj))
    simp only [List.map_cons, loopC, hn, if_true, h x List.mem_cons_self, Res.ne, Res.bind_ok, t]
    by_cases hp : p x = true
    · simp [hp, accD]
    · simp [hp, accD]
theorem eComp_map {ι γ : Type} {vs : List Nat} {src : Ev → Res (List D × Ev)} {tgt : D → Ev → Res Ev} {test : Ev → Res (Bool × Ev)} {elt : Ev → Res (D × Ev)} (it : ι → D) (φ : ι → Option γ) (out : γ → D) {ε ε1 : Ev} {ys : List D} {xs : List ι} {cs : List γ} (hm : mapO φ xs = some cs) (hs : src ε = .ok (ys, ε1)) (hy : ys = xs.map it) (hl : xs.length ≤ 1000000) (hn : noOw ε1 vs = true)
    (h : ∀ j c, φ j = some c → blkF vs tgt test elt (it j) ε1 = .ok (some (out c), ε1)) : eComp vs src tgt test elt ε = .ok (cs.map out, ε1) := by
  have t := loopC_map (it := it) (out := out) hn h xs cs [] hm
  simp only [eComp, hs, Res.bind_ok, hy, List.length_map, hl, if_true, t, List.nil_append]
theorem eComp_filter {ι : Type} {vs : List Nat} {src : Ev → Res (List D × Ev)} {tgt : D → Ev → Res Ev} {test : Ev → Res (Bool × Ev)} {elt : Ev → Res (D × Ev)} (it : ι → D) (p : ι → Bool) (out : ι → D) {ε ε1 : Ev} {ys : List D} {xs : List ι} (hs : src ε = .ok (ys, ε1)) (hy : ys = xs.map it) (hl : xs.length ≤ 1000000) (hn : noOw ε1 vs = true)
    (h : ∀ j ∈ xs, blkF vs tgt test elt (it j) ε1 = .ok (if p j then some (out j) else none, ε1)) : eComp vs src tgt test elt ε = .ok ((xs.filter p).map out, ε1) := by
  have t := loopC_filter (it := it) (out := out) hn xs [] h
  simp only [eComp, hs, Res.bind_ok, hy, List.length_map, hl, if_true, t, List.nil_append]
end PL
namespace PL
@[simp] theorem s_ixN (n : Nat) (i : Int) : L2.ixN n i = if 0 ≤ i then (if i < n then some i.toNat else none) else if -(n : Int) ≤ i then some (i + n).toNat else none := rfl
@[simp] theorem s_atI {α : Type} (xs : List α) (i : Int) : L2.atI xs i = (L2.ixN xs.length i).bind fun j => xs[j]? := rfl
end PL
/-! PL, part q: in, not in (flat items); list(range(..)), tuple(range(..)). -/
namespace PL
open PySem PySem.Spec PyProof.Rows L2
def flatD : D → Option V
  | .non => some .non
  | .bl b => some (.bl b)
  | .int i => some (.int i)
  | .str x => some (.str x)
  | _ => none
def flatL : List D → Option (List V)
  | [] => some []
  | d :: ds => match flatD d, flatL ds with
    | some v, some vs => some (v :: vs)
    | _, _ => none
theorem flatD_rp {F : Fx} {G : Hp} {d : D} {v w : V} (h : flatD d = some v) (r : Rp F G d w) : w = v ∧ flatV v = true := by
  cases d with
  | non => cases h; rw [rp_non] at r; exact ⟨r, rfl⟩
  | bl b => cases h; rw [rp_bl] at r; exact ⟨r, rfl⟩
  | int b => cases h; rw [rp_int] at r; exact ⟨r, rfl⟩
  | str b => cases h; rw [rp_str] at r; exact ⟨r, rfl⟩
  | _ => cases h
theorem flatL_rp {F : Fx} {G : Hp} : ∀ {ds : List D} {vs ws : List V}, flatL ds = some vs → RpL F G ds ws → ws = vs ∧ vs.all flatV = true
  | [], vs, ws, h, r => by
    simp only [flatL, Option.some.injEq] at h
    subst h
    exact ⟨r.of_nil, rfl⟩
  | d :: ds, vs, ws, h, r => by
    obtain ⟨w, r', rfl, rd, rl⟩ := r.of_cons
    simp only [flatL] at h
    cases e1 : flatD d with
    | none => rw [e1] at h; cases h
    | some v =>
      rw [e1] at h
      cases e2 : flatL ds with
      | none => rw [e2] at h; cases h
      | some us =>
        rw [e2] at h
        cases h
        obtain ⟨a, b⟩ := flatD_rp e1 rd
        obtain ⟨c, d⟩ := flatL_rp e2 rl
        subst a
        subst c
        exact ⟨rfl, by rw [List.all_cons, b, d]; rfl⟩
def inD (neg : Bool) (x : D) (ds : List D) : Res D := match flatD x, flatL ds with
  | some v, some vs => .ok (.bl (if neg then !inV v vs else inV v vs))
  | _, _ => .stuck
def dIn (neg : Bool) : D → D → Res D
  | x, .lst ds => inD neg x ds
  | x, .tup ds => inD neg x ds
  | _, _ => .stuck
section
variable {M : Fr} {W : WX} {X : Cx} {k : Nat}
theorem opH_in (neg : Bool) : OpH M W (rIn M.F.K neg) (dIn neg) := by
  intro x y v w σ G H ε s rx ry Q hp
  have fin : ∀ (ds : List D) (ws : List V) (p : Addr), w = .ref p → (SqL M.F.K H p ws ∨ SqT M.F.K H p ws) → RpL M.F G ds ws → Post M W σ G H ε (Rp M.F) ((inD neg x ds).bind fun d => .ok (d, ε)) Q → rIn M.F.K neg v w H Q := by
    intro ds ws p ew hq l hp
    unfold inD at hp
    split at hp
    · rename_i v0 vs e1 e2
      obtain ⟨a, b⟩ := flatL_rp e2 l
      subst a
      have hv : v = v0 ∧ flatV v0 = true := by
        cases x with
        | lst _ => cases e1
        | _ => exact flatD_rp (F := M.F) (G := G) e1 rx
      obtain ⟨c, d⟩ := hv
      subst c
      exact ⟨p, ws, ew, hq, d, b, post_ok hp s (rp_bl.mpr rfl)⟩
    · exact hp.elim
  cases y with
  | lst ds =>
    obtain ⟨p, ws, rfl, hv, l⟩ := ry
    exact fin ds ws p rfl (.inl (SqL.of hv)) l (by cases x <;> exact hp)
  | tup ds =>
    obtain ⟨p, ws, rfl, hv, l⟩ := rpH_tup.mp ry
    exact fin ds ws p rfl (.inr (sqT_mono s.sub hv)) l (by cases x <;> exact hp)
  | _ => cases x <;> exact hp.elim
theorem cm_in (c : CO M W k X) : CmpR M W X .In (dIn false) := ⟨_, by rw [← c.hK]; exact op_in_seq, (opH_in false).opT⟩
theorem cm_nin (c : CO M W k X) : CmpR M W X .NotIn (dIn true) := ⟨_, by rw [← c.hK]; exact op_notIn_seq, (opH_in true).opT⟩
end

/-! list(range(..)), tuple(range(..)) -/
theorem rpL_rg {F : Fx} {G : Hp} (lo : Int) : ∀ l : List Nat, RpL F G (l.map fun (i : Nat) => D.int (lo + i)) (l.map fun (i : Nat) => V.int (lo + i))
  | [] => RpL.nil
  | x :: xs => RpL.cons (rp_int.mpr rfl) (rpL_rg lo xs)
def rgOk (a b : Int) : Bool := Nat.ble a.natAbs 1000000000 && Nat.ble b.natAbs 1000000000 && Nat.ble (b - a).toNat 1000000
def dRg : D → D → Res (List D)
  | .int a, .int b => if rgOk a b = true then .ok (rgD a (b - a).toNat) else .stuck
  | _, _ => .stuck
@[reducible, simp] def eRg1 (fa : Ev → Res (D × Ev)) : Ev → Res (List D × Ev) := fun ε => (fa ε).bind fun p => (dRg (.int 0) p.1).bind fun ds => .ok (ds, p.2)
@[reducible, simp] def eRg2 (fa fb : Ev → Res (D × Ev)) : Ev → Res (List D × Ev) := fun ε => (fa ε).bind fun p => (fb p.2).bind fun q => (dRg p.1 q.1).bind fun ds => .ok (ds, q.2)
theorem rgOk_ok {a b : Int} (h : rgOk a b = true) : RgOk a b := by
  simp only [rgOk, Bool.and_eq_true, Nat.ble_eq] at h
  obtain ⟨⟨h1, h2⟩, h3⟩ := h
  exact ⟨by omega, by omega, by omega, by omega, by omega⟩
section
variable {M : Fr} {W : WX} {X : Cx} {k : Nat} {a b : Expr} {fa fb : Ev → Res (D × Ev)} {p p2 pos pos2 : Pos}
theorem trN_rg1 {ta : TE} (qa : Tr M W (Rp M.F) ta fa) : TrN M W (tLstRg (tRg1 ta)) (eRg1 fa) := by
  intro σ G H ε s Q hp
  refine qa σ G H ε s _ ?_
  simp only [eRg1] at hp
  cases e : fa ε with
  | stuck => rw [e] at hp; exact hp
  | err c => rw [e] at hp; exact hp
  | ok q =>
    rw [e] at hp
    simp only [Res.bind_ok] at hp
    intro v G1 H1 s1 st1 rv
    have hp1 := hp
    cases hd : q.1 with
    | int n =>
      rw [hd] at hp1 rv
      rw [rp_int] at rv
      simp only [dRg] at hp1
      split at hp1
      · rename_i hok
        refine ⟨n, rv, rgOk_ok hok, fun r hr => ?_⟩
        have hp2 : PostN M W σ G1 H1 q.2 (.ok (rgD 0 (n - 0).toNat, q.2)) Q := PostN.shift s1 st1 hp1
        exact postN_new hp2 s1 hr (rpL_rg 0 _)
      · exact hp1.elim
    | _ => rw [hd] at hp1; exact hp1.elim
theorem pn_lrange1 (c : CO M W k X) (hm : X.mg "list" = none) (hm2 : X.mg "range" = none) (ha : PV M W X a fa) (hg : Gl X "list" := by rfl) (hg2 : Gl X "range" := by rfl) (na : starEach [a] X.env = (false, eval a X.env) :: starEach [] X.env := by rfl)
    (na2 : starEach [.Call (.Name "range" p2) [a] [] pos2] X.env = (false, eval (.Call (.Name "range" p2) [a] [] pos2) X.env) :: starEach [] X.env := by rfl) : PN M W X (.Call (.Name "list" p) [.Call (.Name "range" p2) [a] [] pos2] [] pos) (eRg1 fa) := by
  obtain ⟨ta, ea, qa⟩ := ha
  exact ⟨_, pe_listRg c.calm hg hm (prg_1 hg2 hm2 ea na) na2, trN_rg1 qa⟩
theorem pv_trange1 (c : CO M W k X) (hm : X.mg "tuple" = none) (hm2 : X.mg "range" = none) (ha : PV M W X a fa) (hg : Gl X "tuple" := by rfl) (hg2 : Gl X "range" := by rfl) (na : starEach [a] X.env = (false, eval a X.env) :: starEach [] X.env := by rfl)
    (na2 : starEach [.Call (.Name "range" p2) [a] [] pos2] X.env = (false, eval (.Call (.Name "range" p2) [a] [] pos2) X.env) :: starEach [] X.env := by rfl) : PV M W X (.Call (.Name "tuple" p) [.Call (.Name "range" p2) [a] [] pos2] [] pos) (eTup (eRg1 fa)) := by
  obtain ⟨ta, ea, qa⟩ := ha
  refine ⟨_, pe_tupRg c.calm hg hm (prg_1 hg2 hm2 ea na) na2, fun σ G H ε s Q hp => ?_⟩
  refine qa σ G H ε s _ ?_
  simp only [eTup, eRg1] at hp
  cases e : fa ε with
  | stuck => rw [e] at hp; exact hp
  | err c => rw [e] at hp; exact hp
  | ok q =>
    rw [e] at hp
    simp only [Res.bind_ok] at hp
    intro v G1 H1 s1 st1 rv
    have hp1 := hp
    cases hd : q.1 with
    | int n =>
      rw [hd] at hp1 rv
      rw [rp_int] at rv
      simp only [dRg] at hp1
      split at hp1
      · rename_i hok
        refine ⟨n, rv, rgOk_ok hok, fun r hr => ?_⟩
        have hp2 : Post M W σ G1 H1 q.2 (Rp M.F) (.ok (.tup (rgD 0 (n - 0).toNat), q.2)) Q := Post.shift s1 st1 hp1
        exact post_new hp2 s1 hr (fun ps z => by cases z) (rp_tup.mpr ⟨r, _, rfl, .inl (.inl upd_same), rpL_rg 0 _⟩)
      · exact hp1.elim
    | _ => rw [hd] at hp1; exact hp1.elim
end
end PL
/-! PL, part r: a def that calls itself: by the number of calls that may stand one in another. -/
namespace PL
open PySem PySem.Spec PyProof.Rows L2
section
variable {P : Program} {w : World} {K : PySem.W.Frag} {mg : Str → Option Value} {base : Heap}
theorem fn_none {F : Fx} {x qual : Str} {st : Stmt} {f : Addr} {fd : FuncData} {N ps : List Str} {k n : Nat} (Fu : Fun K x qual st f fd) (S : FnScope N ps (defScope st)) (hn : ps.length = n) : FnOk P w K mg base (L2N.CX P w) (k + 1) f fd ps (SpP F n fun _ => .stuck) := by
  refine Fu.okN S (fun vs H Q E ⟨ds, G, h1, h2, h3, _⟩ => by rw [← h3.length, h1, hn]) fun cdv A outer s H vs Q E hr h => ?_
  obtain ⟨ds, G, h1, h2, h3, h4⟩ := h
  exact h4.elim
end
/-- the mirror of a def that calls itself -/
def recG (n : Nat) (b : (List D → Res D) → Ev → Out) : Nat → List D → Res D
  | 0, _ => .stuck
  | m + 1, ds => outRes (b (recG n b m) (startE n ds))
end PL
/-! PL, part s: within an except suite (an exception is handled, its own context None): a list walked to its end, a tuple unpacked, a comprehension over a list. -/
namespace PL
open PySem PySem.Spec PyProof.Rows L2 L2H HotX
section
variable {prog : Program} {w : World} {A : Around} {E : Value → Shared → Prop} {s : Shared}
/-- a list's iterator at its end, while x1 is handled -/
theorem listEnd_hot {x1 it lst : Addr} {n : Nat} {xs : Array Value} {R : Option Value → Shared → Prop} (hot : HotAt A x1 s.heap) (hne : x1 ≠ it) (hi : s.heap.IsListIter it lst n) (hl : s.heap.IsList lst xs) (hz : xs[n]? = none)
    (hR : ∀ h2, Heap.ExtBut it s.heap h2 → R none { s with heap := h2 }) : wpAny (model prog w) A (pyNext (.ref it)) R E s := by
  obtain ⟨hh, o1, vs1, h1, d1, c1⟩ := hot
  obtain ⟨oi, hoi, hci, hdi⟩ := id hi
  obtain ⟨oq, hoq, _, nq, hdq⟩ := hl
  unfold pyNext
  refine wpAny_bind (wpAny_attempt (wpAny_callSpecial?_slot (name := Str.ofString "__next__") hi.typeIs slot_listiter_next (wpAny_call_entry slot_listiter_next hi.typeIs entry_listiter_next ?_ (args_listiter_next _))))
  show wpAny _ _ (do let v ← field (.ref it) 0; _) _ _ s
  refine wpAny_bind (wpAny_field hoi hdi (x := .ref lst) rfl ?_)
  show wpAny _ _ (ite ((Value.ref lst == Value.none) = true) _ _) _ _ s
  rw [if_neg (show ¬ (Value.ref lst == Value.none) = true from Bool.false_ne_true)]
  show wpAny _ _ (do let v ← field (.ref it) 1; _) _ _ s
  refine wpAny_bind (wpAny_field hoi hdi (x := .int n 0) rfl ?_)
  show wpAny _ _ (do let v ← seqItems? (.ref lst); _) _ _ s
  refine wpAny_bind (wpAny_seqItems hoq hdq ?_)
  simp only [Int.toNat_natCast, hz]
  refine wpAny_bind (wpAny_rule (wpAny_bind (wpAny_setField hoi hdi (by simp) ?_)))
  have h1' := (Heap.get?_update_other s.heap (Obj.mapFields fun x => x.setIfInBounds 0 Value.none) hne.symm).trans h1
  show wpAny _ _ (do let e ← newExc (.type "StopIteration") []; _) _ _ _
  refine wpAny_bind ?_
  simp only [newExc, newTuple]
  refine wpAny_bind (wpAny_newObj_type ?_ (by size_fits))
  refine wpAny_bind (m := firstArgMember _ _) (wpAny_of_eq (a := Value.none) (by first | rfl | (simp only [firstArgMember]; rfl)) ?_)
  refine wpAny_newObj_type ?_ (by size_fits)
  refine raiseNew_hot ⟨hh, o1, vs1, Heap.get?_push_of_some _ (Heap.get?_push_of_some _ h1'), d1, c1⟩ (Nat.ne_of_lt (Heap.lt_size (Heap.get?_push_of_some _ h1'))) (Heap.get?_push_size _ rfl) rfl (by first | (simp; done) | (simp; omega) | (simp only [Array.size_append]; simp; omega)) ?_
  refine wpAny_bind (wpAny_isInstance (T := "StopIteration") (b := true) ⟨_, Heap.get?_update_self _ (Heap.get?_push_size _ rfl) rfl, rfl⟩ isSubtype_stop ?_)
  refine wpAny_pure (hR _ fun b u hb e => ?_)
  have e2 := (Heap.get?_update_other s.heap (Obj.mapFields fun x => x.setIfInBounds 0 Value.none) hb.symm).trans e
  rw [Heap.get?_update_other _ _ (Nat.ne_of_gt (Heap.lt_size (Heap.get?_push_of_some _ e2)))]
  exact Heap.get?_push_of_some _ (Heap.get?_push_of_some _ e2)
/-- .. a tuple's -/
theorem tupEnd_hot {x1 it lst : Addr} {n : Nat} {xs : Array Value} {R : Option Value → Shared → Prop} (hot : HotAt A x1 s.heap) (hne : x1 ≠ it) (hi : IsTupIter s.heap it lst n) (hl : IsTup s.heap lst xs) (hz : xs[n]? = none)
    (hR : ∀ h2, Heap.ExtBut it s.heap h2 → R none { s with heap := h2 }) : wpAny (model prog w) A (pyNext (.ref it)) R E s := by
  obtain ⟨hh, o1, vs1, h1, d1, c1⟩ := hot
  obtain ⟨oi, hoi, hci, hdi⟩ := id hi
  obtain ⟨oq, hoq, _, nq, hdq⟩ := hl
  unfold pyNext
  refine wpAny_bind (wpAny_attempt (wpAny_callSpecial?_slot (name := Str.ofString "__next__") hi.typeIs slot_tupleiter_next (wpAny_call_entry slot_tupleiter_next hi.typeIs entry_tupleiter_next ?_ (args_tupleiter_next _))))
  show wpAny _ _ (do let v ← field (.ref it) 0; _) _ _ s
  refine wpAny_bind (wpAny_field hoi hdi (x := .ref lst) rfl ?_)
  show wpAny _ _ (ite ((Value.ref lst == Value.none) = true) _ _) _ _ s
  rw [if_neg (show ¬ (Value.ref lst == Value.none) = true from Bool.false_ne_true)]
  show wpAny _ _ (do let v ← field (.ref it) 1; _) _ _ s
  refine wpAny_bind (wpAny_field hoi hdi (x := .int n 0) rfl ?_)
  show wpAny _ _ (do let v ← seqItems? (.ref lst); _) _ _ s
  refine wpAny_bind (wpAny_seqItems hoq hdq ?_)
  simp only [Int.toNat_natCast, hz]
  refine wpAny_bind (wpAny_rule (wpAny_bind (wpAny_setField hoi hdi (by simp) ?_)))
  have h1' := (Heap.get?_update_other s.heap (Obj.mapFields fun x => x.setIfInBounds 0 Value.none) hne.symm).trans h1
  show wpAny _ _ (do let e ← newExc (.type "StopIteration") []; _) _ _ _
  refine wpAny_bind ?_
  simp only [newExc, newTuple]
  refine wpAny_bind (wpAny_newObj_type ?_ (by size_fits))
  refine wpAny_bind (m := firstArgMember _ _) (wpAny_of_eq (a := Value.none) (by first | rfl | (simp only [firstArgMember]; rfl)) ?_)
  refine wpAny_newObj_type ?_ (by size_fits)
  refine raiseNew_hot ⟨hh, o1, vs1, Heap.get?_push_of_some _ (Heap.get?_push_of_some _ h1'), d1, c1⟩ (Nat.ne_of_lt (Heap.lt_size (Heap.get?_push_of_some _ h1'))) (Heap.get?_push_size _ rfl) rfl (by first | (simp; done) | (simp; omega) | (simp only [Array.size_append]; simp; omega)) ?_
  refine wpAny_bind (wpAny_isInstance (T := "StopIteration") (b := true) ⟨_, Heap.get?_update_self _ (Heap.get?_push_size _ rfl) rfl, rfl⟩ isSubtype_stop ?_)
  refine wpAny_pure (hR _ fun b u hb e => ?_)
  have e2 := (Heap.get?_update_other s.heap (Obj.mapFields fun x => x.setIfInBounds 0 Value.none) hb.symm).trans e
  rw [Heap.get?_update_other _ _ (Nat.ne_of_gt (Heap.lt_size (Heap.get?_push_of_some _ e2)))]
  exact Heap.get?_push_of_some _ (Heap.get?_push_of_some _ e2)
/-- a tuple taken apart there -/
theorem unpack_hot {x1 t : Addr} {xs : Array Value} {env : Env} {es : List Expr} {kk : Nat} {pos : Pos} {R : Unit → Shared → Prop} (hot : HotAt A x1 s.heap) (ht : IsTup s.heap t xs) (hn : (assignEach es env).length = xs.size) (hst : (assignEach es env).findIdx? (·.1) = none)
    (h : ∀ h2, Heap.ExtBut s.heap.objs.size s.heap h2 → wpAny (model prog w) A (assignInOrder ((assignEach es env).map (·.2)) xs.toList) R E { s with heap := h2 }) : wpAny (model prog w) A (assign (.Tuple es kk pos) env (.ref t)) R E s := by
  obtain ⟨hh, o1, vs1, h1, d1, c1⟩ := hot
  have hlt : t ≠ s.heap.objs.size := by
    obtain ⟨o, ho, _⟩ := ht
    exact Nat.ne_of_lt (Heap.lt_size ho)
  rw [assign_Tuple]
  refine wpAny_bind (wpAny_standAt ?_)
  unfold unpack
  rw [hn, hst]
  refine wpAny_bind (wpAny_holding ?_)
  unfold unpackItems
  refine wpAny_bind ?_
  unfold notIterableAtAll
  refine wpAny_bind (wpAny_specialOf ht.typeIs slot_tuple_iter.lookup ?_)
  refine wpAny_pure ?_
  simp only [Bool.false_eq_true, if_false]
  refine wpAny_bind (wpAny_holding (iter_tuple ht ?_))
  refine wpAny_bind (wpAny_holding (draw_tuple hlt xs.size 0 _ _ ⟨_, Heap.get?_push_size _ rfl, rfl, rfl⟩ (ht.push _) (by omega) fun g1 hit1 hs1 => ?_))
  have hall : List.take xs.size (List.drop 0 xs.toList) = xs.toList := by
    rw [List.drop_zero]
    exact List.take_of_length_le (by simp)
  rw [hall, if_neg (by simp)]
  have ht1 : IsTup g1 t xs := (ht.push _).extBut hs1.extBut hlt
  have nx1 : x1 ≠ s.heap.objs.size := Nat.ne_of_lt (Heap.lt_size h1)
  have hx1 : g1.get? x1 = some o1 := hs1.extBut x1 o1 nx1 (Heap.get?_push_of_some _ h1)
  refine wpAny_bind (wpAny_holding (tupEnd_hot (x1 := x1) ⟨hh, o1, vs1, hx1, d1, c1⟩ nx1 hit1 ht1 (by simp) fun g2 he2 => ?_))
  simp only [Option.isSome_none, Bool.false_eq_true, if_false]
  exact wpAny_pure (h g2 fun b u hb e => he2 b u hb (hs1.extBut b u hb (Heap.get?_push_of_some _ e)))
end

/-! ### walks -/
theorem turnL_hot {P : Program} {w : World} {K : PySem.W.Frag} {tg : Expr} (a it : Addr) : TurnH P w K tg (Itl K a) [it] it (fun i h => h.IsListIter it a i) where
  mem := List.mem_singleton.mpr rfl
  obj := fun i h st b hb => by
    cases List.mem_singleton.mp hb
    obtain ⟨o, e, c, d⟩ := st
    exact ⟨o, e, fun v z => by rw [d] at z; cases z⟩
  keep := fun i h h2 st k => st.at fun o e => k it (List.mem_singleton.mpr rfl) o e
  item := fun X hP hw hK hc i pins s σ H E I hf st hg => by
    subst hP hw hK
    obtain ⟨xs, x, hq, hx⟩ := hg
    obtain ⟨its, rv, p, hz⟩ := I.list hq
    obtain ⟨u, hu, ru⟩ := rv.get hx
    obtain ⟨q0, q1, q2, q3, q4, q5⟩ := hf it (List.mem_singleton.mpr rfl)
    refine wpAny_pyNext_list_item st p.isList (x := u) (by simpa using hu) fun h2 st2 sb => ?_
    obtain ⟨o, e, c, d⟩ := id st2
    exact ⟨u, rfl, go_of (s := { s with heap := h2 }) e c d (by decide) ⟨x, H, I.turned (t' := s.toks) (fun b o nb e => (sb.2 b nb).trans e) q0 q1 q3 q4 q5, ru, ⟨rfl, fun ys hy => by rw [I.list_inj hy hq]; exact hx⟩, st2, fun b hb => (hf b hb).1⟩⟩
  done := fun X hP hw hK hc i pins s σ H E I hf st hg => by
    subst hP hw hK
    obtain ⟨xs, hq, hx⟩ := hg
    obtain ⟨its, rv, p, hz⟩ := I.list hq
    obtain ⟨q0, q1, q2, q3, q4, q5⟩ := hf it (List.mem_singleton.mpr rfl)
    obtain ⟨pp, ⟨hh, vs, hd, h2⟩, hm⟩ := hc
    have nx : pp.1 ≠ it := q5 pp (List.mem_append_left _ hm)
    have hl := rv.length
    exact listEnd_hot (x1 := pp.1) ⟨hh, pp.2, vs, (I.pin pp (List.mem_append_left _ hm)).1, hd, h2⟩ nx st p.isList (by simp; omega) fun h2 eb => ⟨rfl, I.turned (t' := s.toks) (fun b o nb e => eb b o nb e) q0 q1 q3 q4 q5⟩
  self := fun _ _ _ _ _ st h => wpAny_pyIter_listiter st h
section
variable {X : Cx}
theorem piL_hot {tg l : Expr} {tl : TE} (hl : PE X l tl) : PIH X tg l (iList X.K tl) := by
  refine ⟨fun pins s σ H R I h => ?_⟩
  refine thn (hl.run pins s σ H _ I h) fun v s1 ⟨x, H1, I1, r1, a, e, ⟨xs, hq⟩, q⟩ => ?_
  subst e
  cases r1
  obtain ⟨its, rv, p, hz⟩ := I1.list hq
  refine wpAny_pyIter_list p.isList ?_
  refine ⟨s1.heap.objs.size, [s1.heap.objs.size], _, _, H1, rfl, I1.kept (t' := s1.toks) (fun b o e => Heap.get?_push_of_some _ e), turnL_hot a _, ⟨_, Heap.get?_push_size _ rfl, rfl, rfl⟩, fun b hb => ?_, q⟩
  cases List.mem_singleton.mp hb
  exact I1.fpOk (Nat.le_refl _) (I1.hok.fresh (Nat.le_refl _))
theorem pgTup_hot {es : List Expr} {kk : Nat} {t : TGs} {n : Nat} {pos : Pos} (hc : HotC X) (h : PGs X es t) (hn : (assignEach es X.env).length = n) (hst : (assignEach es X.env).findIdx? (·.1) = none) : PG X (.Tuple es kk pos) (gTup X.K n t) := by
  refine ⟨fun pins s σ H v u Q I r hw => ?_⟩
  obtain ⟨a, xs, e1, hq, hl, hw⟩ := hw
  subst e1
  cases r
  obtain ⟨its, rv, ht, hz⟩ := I.tuple hq
  obtain ⟨x1, hot⟩ := hc.at I
  refine unpack_hot hot ht (by simp [hn, ← hl, rv.length]) hst fun h2 hx => ?_
  exact h.run pins _ σ H xs _ Q (I.kept (t' := s.toks) fun b o e => hx b o (Nat.ne_of_lt (Heap.lt_size e)) e) (by simpa using rv) hw

/-! ### a comprehension's block there: what is pinned stays so -/
abbrev hblk (X : Cx) (s : Shared) (H : Hp) (scope : Scope) (cenv : Env) (fp : List Addr) : Cx := (X.blk s H scope cenv fp).tr X.pn (fun _ _ => False)
theorem hblk_start {pins : List (Addr × Obj)} {σ : L2.St} {H : Hp} {s : Shared} {scope : Scope} {own : List (Str × Nat)} {fp : List Addr} (I : Inv X pins σ H s) (ok : BlkOk X.N X.env.scope scope own) (hN : X.N.Nodup) (hfp : ∀ b ∈ fp, FpOk X pins H b ∧ b < s.heap.objs.size) :
    Inv (hblk X s H scope (compEnvC scope (cellsFrom (s.heap.objs.size + 1) scope.names (cloFrom X.env.cells scope.names [])) s.heap.objs.size X.env) fp) [] (wipe σ (own.map (·.2))) H
      { s with heap := pushCells (s.heap.push { cls := .type "dict", data := .dict #[] }) scope.names } := by
  have J := block_start I ok hN hfp
  refine ⟨J.ok.toTry _ _, J.os, J.bare, J.base, J.loc, J.cell, J.free, J.freeC, fun p hp => ?_, J.hok, J.len⟩
  have hp2 : p ∈ X.pn := by simpa using hp
  obtain ⟨e1, e2, e3, e4, e5⟩ := I.pin p (List.mem_append_left _ hp2)
  refine ⟨pushCells_keeps _ _ _ _ (Heap.get?_push_of_some _ e1), e2, Nat.ne_of_lt (Heap.lt_size e1), fun z => ?_, e5⟩
  rcases List.mem_cons.mp (I.stkSub _ z) with y | y
  · exact e3 y
  · exact e4 y
theorem hblk_hot (hc : HotC X) (s : Shared) (H : Hp) (scope : Scope) (cenv : Env) (fp : List Addr) : HotC (hblk X s H scope cenv fp) := hc
/-- [elt for tg in iter if ..] while an exception is handled -/
theorem lc_hot {pins : List (Addr × Obj)} {s : Shared} {σ : L2.St} {H : Hp} {Q : VK} {elt tg iter : Expr} {ifs : List Expr} {scope : Scope} {own : List (Str × Nat)} {pos pos2 : Pos} {wi : TI} {g : TG} {tt : TT} {te : TE} {use : Option (Value → Sem Unit)} {Qf : Value → Shared → Prop}
    (hc : HotC X) (hN : X.N.Nodup) (I : Inv X pins σ H s) (hi : PIH X tg iter wi) (ok : BlkOk X.N X.env.scope scope own)
    (hg : ∀ (s : Shared) (H : Hp) (C : Addr) (cl : List (Str × Addr)) (fp : List Addr), PG (hblk X s H scope (compEnvC scope cl C X.env) fp) tg g)
    (ht : ∀ (s : Shared) (H : Hp) (C : Addr) (cl : List (Str × Addr)) (fp : List Addr), PTs (hblk X s H scope (compEnvC scope cl C X.env) fp) ifs tt)
    (he : ∀ (s : Shared) (H : Hp) (C : Addr) (cl : List (Str × Addr)) (fp : List Addr), PE (hblk X s H scope (compEnvC scope cl C X.env) fp) elt te) (hs : ∀ x, foldedSetIterable iter X.env x = pure x)
    (h : tLc wi g tt te (own.map (·.2)) σ H Q)
    (hR : ∀ L C s2 m H2, Inv X pins σ H2 s2 → Q (.ref L) H2 → s2.heap.Ns C m → FpOk X pins H2 C → compPost (model X.prog X.w) X.A X.xe use Qf (.ref L) C (.ok .next) s2) :
    wpAny (model X.prog X.w) X.A (comprehension (.ListComp elt [⟨tg, iter, ifs, 0⟩] scope pos) scope X.env pos2 (newList []) false (eval iter X.env) use) Qf X.xe s := by
  have has : ∀ y ∈ scope.names, y.2 = .free → ∃ c, X.env.cells.lookup y.1 = some c := fun y hy e => (ok.free y hy e).elim (fun z => I.ok.has _ (.inl z)) fun z => I.ok.has _ (.inr z)
  refine wpAny_comprehension_free (use := use) rfl hs (closure_ok has) ok.kind (fun y hy e => by rw [ok.uniq y hy, e]) (thn (hi.run pins s σ H _ I h) fun xv s1 hx => thn hx fun itv s2 hh => ?_)
  obtain ⟨it, fp, tn, J, H2, rfl, I2, T, st2, f2, q⟩ := hh
  refine wpAny_newObj_type (newEnv_comp ?_) (by show 0 ≤ sizeLine; decide)
  obtain ⟨L, hL⟩ : ∃ L, L = s2.heap.objs.size := ⟨_, rfl⟩
  rw [← hL]
  have nL : H2 L = none := I2.hok.fresh (Nat.le_of_eq hL.symm)
  obtain ⟨V, ⟨m0, v0⟩, turn⟩ := q L nL
  obtain ⟨sa, esa⟩ : ∃ sa : Shared, sa = { s2 with heap := s2.heap.push { cls := .type "list", data := .seq ([] : List Value).toArray } } := ⟨_, rfl⟩
  have ha : sa.heap = s2.heap.push { cls := .type "list", data := .seq ([] : List Value).toArray } := by rw [esa]
  have Ia : Inv X pins σ (upd H2 L (.lst [])) sa := by
    rw [esa]
    refine I2.laid (t' := s2.toks) (fun b o e => Heap.get?_push_of_some _ e) (Nat.le_of_eq hL.symm) ⟨Nat.zero_le _, [], 0, .nil, ?_⟩
    rw [hL]
    exact Heap.get?_push_size _ rfl
  have lt2 : ∀ b ∈ fp, b < s2.heap.objs.size := fun b hb => (T.obj _ _ st2 b hb).elim fun o z => Heap.lt_size z.1
  have fa : ∀ b ∈ fp, FpOk X pins (upd H2 L (.lst [])) b ∧ b < sa.heap.objs.size := fun b hb => by
    refine ⟨⟨?_, (f2 b hb).2⟩, by rw [ha, Heap.size_push]; exact Nat.lt_succ_of_lt (lt2 b hb)⟩
    rw [upd_ne (by rw [hL]; exact Nat.ne_of_lt (lt2 b hb))]
    exact (f2 b hb).1
  have sta : tn 0 sa.heap := T.keep _ _ _ st2 fun b _ o e => by rw [ha]; exact Heap.get?_push_of_some _ e
  have Ib := hblk_start Ia ok hN fa
  obtain ⟨Ha, eHa⟩ : ∃ Ha, Ha = upd H2 L (.lst []) := ⟨_, rfl⟩
  rw [← eHa] at Ia Ib fa v0
  rw [← esa]
  obtain ⟨ce, ece⟩ : ∃ ce, ce = compEnvC scope (cellsFrom (sa.heap.objs.size + 1) scope.names (cloFrom X.env.cells scope.names [])) sa.heap.objs.size X.env := ⟨_, rfl⟩
  have pg := hg sa Ha sa.heap.objs.size (cellsFrom (sa.heap.objs.size + 1) scope.names (cloFrom X.env.cells scope.names [])) fp
  have pt := ht sa Ha sa.heap.objs.size (cellsFrom (sa.heap.objs.size + 1) scope.names (cloFrom X.env.cells scope.names [])) fp
  have pe := he sa Ha sa.heap.objs.size (cellsFrom (sa.heap.objs.size + 1) scope.names (cloFrom X.env.cells scope.names [])) fp
  rw [← ece] at Ib pg pt pe
  have cL : ce.locals = sa.heap.objs.size := by rw [ece]; rfl
  show codeAny _ _ (.compStart (.ListComp elt [⟨tg, iter, ifs, 0⟩] scope pos) 0 (.ref it) (.ref L) (compEnvC scope (cellsFrom (sa.heap.objs.size + 1) scope.names (cloFrom X.env.cells scope.names [])) sa.heap.objs.size X.env))
    (compPost (model X.prog X.w) X.A X.xe use Qf (.ref L) sa.heap.objs.size) { sa with heap := pushCells (sa.heap.push { cls := .type "dict", data := .dict #[] }) scope.names }
  rw [← ece]
  obtain ⟨sb, esb⟩ : ∃ sb : Shared, sb = { sa with heap := pushCells (sa.heap.push { cls := .type "dict", data := .dict #[] }) scope.names } := ⟨_, rfl⟩
  rw [← esb] at Ib ⊢
  have stb : tn 0 sb.heap := T.keep _ _ _ sta fun b _ o e => by rw [esb]; exact pushCells_keeps _ _ _ _ (Heap.get?_push_of_some _ e)
  have hotB := hblk_hot hc sa Ha scope ce fp
  have fpB : ∀ {σ2 : L2.St} {H3 : Hp} {s3 : Shared}, Inv (hblk X sa Ha scope ce fp) [] σ2 H3 s3 → (∀ b ∈ fp, H3 b = none) → ∀ b ∈ fp, FpOk (hblk X sa Ha scope ce fp) [] H3 b := fun {σ2 H3 s3} I3 hn b hb =>
    ⟨hn b hb, (I3.ok.exf b hb).1, I3.ok.exfs b hb, .inl hb, fun x c e => (I3.ok.exf b hb).2 x c e, fun p hp => (fa b hb).1.2.2.2.2.2 p (List.mem_append_left _ (by simpa using hp))⟩
  refine codeAny_compStart_list ?_ (T.self X.A 0 _ _ _ stb ?_)
  all_goals
    refine compLoop_any (fun n s3 => ∃ i H3, Inv (hblk X sa Ha scope ce fp) [] (wipe σ (own.map (·.2))) H3 s3 ∧ tn i s3.heap ∧ (∀ b ∈ fp, H3 b = none) ∧ V i n H3) ?_ m0 ⟨0, Ha, Ib, stb, fun b hb => (fa b hb).1.1, v0⟩
    rintro n s5 ⟨i, H5, I5, st5, n5, v5⟩
    rcases turn i n H5 v5 with ⟨stop, qq⟩ | ⟨go, Nx, hNx, step⟩
    · refine thnF (T.done (hblk X sa Ha scope ce fp) rfl rfl rfl hotB i [] s5 _ H5 (fun _ _ => False) I5 (fpB I5 n5) st5 stop) fun r s6 ⟨hr, I6⟩ => ?_
      subst hr
      have Iz : Inv X pins σ H5 s6 := Ia.call' (ch := fp) I6.os I6.base I6.hok I6.bare fun b hb => ⟨(fa b hb).1.2.2.2.1, (fa b hb).1.2.1, (fa b hb).1.2.2.2.2.1, (fa b hb).1.2.2.2.2.2⟩
      obtain ⟨m, hn, _⟩ := I6.loc
      have hn2 : s6.heap.Ns sa.heap.objs.size m := cL ▸ hn
      have nC : H5 sa.heap.objs.size = none := cL ▸ I6.free
      exact hR L sa.heap.objs.size s6 m H5 Iz qq hn2 (Ia.fpOk (Nat.le_refl _) nC)
    · refine thnF (T.item (hblk X sa Ha scope ce fp) rfl rfl rfl hotB i [] s5 _ H5 (fun _ _ => False) I5 (fpB I5 n5) st5 go) fun r s6 ⟨u, hr, h6⟩ => ?_
      subst hr
      refine thnF h6 fun _ s7 ⟨x, H7, I7, r7, y7, st7, n7⟩ => ?_
      refine thnF (pg.run _ s7 _ H7 x u _ (I7.pinned (fpB I7 n7) (T.obj _ _ st7)) r7 (step x H7 y7)) fun _ s8 ⟨σ8, H8, I8, hw8, q8⟩ => ?_
      refine thnF (pt.run _ s8 σ8 H8 _ I8 q8) fun b s9 ⟨H9, I9, q9⟩ => ?_
      have again : ∀ {s3 : Shared} {H3 : Hp}, Inv (hblk X sa Ha scope ce fp) ([] ++ pinsAt fp s7.heap) σ8 H3 s3 → Nx H3 → ∃ m, m < n ∧ ∃ i H4, Inv (hblk X sa Ha scope ce fp) [] (wipe σ (own.map (·.2))) H4 s3 ∧ tn i s3.heap ∧ (∀ b ∈ fp, H4 b = none) ∧ V i m H4 := fun {s3 H3} I3 nx => by
        obtain ⟨m2, hm, v2⟩ := hNx H3 nx
        have kept : ∀ b ∈ fp, ∀ o, s7.heap.get? b = some o → s3.heap.get? b = some o ∧ H3 b = none := fun b hb o e =>
          let z := I3.pin (b, o) (List.mem_append_right _ (List.mem_append_right _ (mem_pinsAt hb e)))
          ⟨z.1, z.2.1⟩
        refine ⟨m2, hm, i + 1, H3, (I3.unpinned (pins := [])).weak (by rw [← hw8, wipe_length]) (fun j v e => ?_), T.keep _ _ _ st7 fun b hb o e => (kept b hb o e).1, fun b hb => ?_, v2⟩
        · rw [← hw8] at e
          exact (wipe_some e).1
        · obtain ⟨o, e, _⟩ := T.obj _ _ st7 b hb
          exact (kept b hb o e).2
      cases b with
      | false =>
        simp only [Bool.false_eq_true, if_false] at q9 ⊢
        exact again I9 q9
      | true =>
        simp only [if_true] at q9 ⊢
        refine thnF (pe.run _ s9 σ8 H9 _ I9 q9) fun z s10 ⟨yv, H10, I10, r10, acc, hD, hz, nx⟩ => ?_
        exact app_ok (X := hblk X sa Ha scope ce fp) I10 hD hz r10 fun s11 I11 => again I11 nx
variable {elt tg iter : Expr} {ifs : List Expr} {scope : Scope} {own : List (Str × Nat)} {pos spos : Pos} {wi : TI} {g : TG} {tt : TT} {te : TE}
theorem peLc_hot (hc : HotC X) (hN : X.N.Nodup) (hi : PIH X tg iter wi) (ok : BlkOk X.N X.env.scope scope own)
    (hg : ∀ (s : Shared) (H : Hp) (C : Addr) (cl : List (Str × Addr)) (fp : List Addr), PG (hblk X s H scope (compEnvC scope cl C X.env) fp) tg g)
    (ht : ∀ (s : Shared) (H : Hp) (C : Addr) (cl : List (Str × Addr)) (fp : List Addr), PTs (hblk X s H scope (compEnvC scope cl C X.env) fp) ifs tt)
    (he : ∀ (s : Shared) (H : Hp) (C : Addr) (cl : List (Str × Addr)) (fp : List Addr), PE (hblk X s H scope (compEnvC scope cl C X.env) fp) elt te) (hs : ∀ x, foldedSetIterable iter X.env x = pure x) :
    PE X (.ListComp elt [⟨tg, iter, ifs, 0⟩] scope pos) (tLc wi g tt te (own.map (·.2))) := by
  refine ⟨fun pins s σ H Q I h => ?_⟩
  rw [eval_ListComp]
  refine lc_hot hc hN I hi ok hg ht he hs h fun L C s2 m H2 I2 q hn f => ⟨m, hn, fun h3 sb => ?_⟩
  obtain ⟨f0, f1, f2, f3, f4, f5⟩ := f
  exact ⟨.ref L, H2, I2.turned (t' := s2.toks) (fun b o nb e => (sb.2 b nb).trans e) f0 f1 f3 f4 f5, rfl, q⟩
theorem psLc_hot {i : Nat} {y : Str} {py : Pos} (hc : HotC X) (hN : X.N.Nodup) (hy : X.N[i]? = some y) (hyl : X.env.scope.names.lookup y = some .local) (hsw : swapsWith (.ListComp elt [⟨tg, iter, ifs, 0⟩] scope pos) (some (.Name y py)) spos.line X.env = pure true)
    (hi : PIH X tg iter wi) (ok : BlkOk X.N X.env.scope scope own)
    (hg : ∀ (s : Shared) (H : Hp) (C : Addr) (cl : List (Str × Addr)) (fp : List Addr), PG (hblk X s H scope (compEnvC scope cl C X.env) fp) tg g)
    (ht : ∀ (s : Shared) (H : Hp) (C : Addr) (cl : List (Str × Addr)) (fp : List Addr), PTs (hblk X s H scope (compEnvC scope cl C X.env) fp) ifs tt)
    (he : ∀ (s : Shared) (H : Hp) (C : Addr) (cl : List (Str × Addr)) (fp : List Addr), PE (hblk X s H scope (compEnvC scope cl C X.env) fp) elt te) (hs : ∀ x, foldedSetIterable iter X.env x = pure x) :
    PS X (.Assign [.Name y py] (.ListComp elt [⟨tg, iter, ifs, 0⟩] scope pos) spos) (tAsg (tLc wi g tt te (own.map (·.2))) (gName i)) := by
  refine ⟨fun pins s σ H D I h => ?_⟩
  rw [exec_Assign_Name_used _ _ _ _ hsw]
  refine wpAny_bind (wpAny_standAt (wpAny_bind ?_))
  show wpAny _ X.A (comprehension (.ListComp elt [⟨tg, iter, ifs, 0⟩] scope pos) scope X.env (firstIterPos [⟨tg, iter, ifs, 0⟩] pos) (newList []) false (eval iter X.env) (some (assign (.Name y py) X.env)) >>= fun _ => _) _ _ s
  have h' : tLc wi g tt te (own.map (·.2)) σ H (fun x H1 => gName i x σ H1 D.nx) := h
  refine wpAny_bind (thn (lc_hot (Qf := fun _ s2 => SP X pins D .next s2) hc hN I hi ok hg ht he hs h' fun L C s2 m H2 I2 q hn f => ?_) fun _ s2 hq => wpAny_pure (wpAny_pure hq))
  obtain ⟨f0, f1, f2, f3, f4, f5⟩ := f
  show wpAny _ _ (assign (.Name y py) X.env (.ref L)) _ _ _
  refine wpAny_assign_Name (store_ok2 (v := V.ref L) I2 hN hy (.inl hyl) rfl (fun s3 I3 ⟨a, sb, ha⟩ => ?_) (.inr hyl))
  refine ⟨m, hn.sameBut sb fun e => ?_, fun h3 sb3 => ⟨_, H2, I3.turned (t' := s3.toks) (fun b o nb e => (sb3.2 b nb).trans e) f0 f1 f3 f4 f5, q⟩⟩
  rcases ha with z | z
  · exact f1 (e.trans z)
  · exact f4 y a z e.symm
end
end PL
/-! PL, part t: the rules within an except suite. -/
namespace PL
open PySem PySem.Spec PyProof.Rows L2 L2H HotX
/-- what a suite's rules ask of the context -/
structure CH (M : Fr) (X : Cx) : Prop where
  hK : X.K = M.F.K
  nd : X.N.Nodup
  hot : HotC X
  un : X.A.units + 64 < cLine
section
variable {M : Fr} {W : WX} {X : Cx} {pos : Pos}
theorem CH.blk (c : CH M X) (s : Shared) (H : Hp) (scope : Scope) (env : Env) (fp : List Addr) : CH M (hblk X s H scope env fp) := ⟨c.hK, c.nd, c.hot, c.un⟩
def PItH (M : Fr) (W : WX) (X : Cx) (tg it : Expr) (f : Ev → Res (List D × Ev)) : Prop := ∃ wi, PIH X tg it wi ∧ Tr M W (fun G ds J => ItOk M.F J G ds) wi f
@[reducible, simp] def dSeqL : D → Res (List D)
  | .lst ds => .ok ds
  | _ => .stuck
@[reducible, simp] def iSeqL (f : Ev → Res (D × Ev)) : Ev → Res (List D × Ev) := fun ε => (f ε).bind fun p => (dSeqL p.1).bind fun ds => .ok (ds, p.2)
theorem pitH_seq {tg e : Expr} {f : Ev → Res (D × Ev)} (ha : PV M W X e f) : PItH M W X tg e (iSeqL f) := by
  obtain ⟨t, et, q⟩ := ha
  refine ⟨_, piL_hot et, fun σ G H ε s Q hp => q σ G H ε s _ ?_⟩
  cases e1 : f ε with
  | stuck => simp only [iSeqL, e1] at hp; exact hp.elim
  | err cc => simp only [iSeqL, e1] at hp; exact hp
  | ok p =>
    obtain ⟨d, ε1⟩ := p
    cases d with
    | lst ds =>
      simp only [iSeqL, e1, Res.bind_ok, dSeqL] at hp
      intro v G1 H1 s1 st1 r
      obtain ⟨a, vs, rfl, ha, l⟩ := rp_lst.mp r
      refine ⟨a, rfl, ⟨vs, SqL.of (s1.sub _ _ ha)⟩, hp _ G1 H1 s1 st1 ?_⟩
      intro i G2 H2 s2 g2
      have hs : SqL X.K H2 a vs := SqL.of (s2.sub _ _ (g2 _ _ ha))
      refine ⟨fun d e => ?_, fun e => ⟨vs, hs, by rw [← l.length]; exact e⟩⟩
      obtain ⟨v, e1, r⟩ := l.get e
      refine ⟨⟨vs, v, hs, e1⟩, fun x H' y => ?_⟩
      obtain ⟨rfl, y⟩ := y
      have ex := y vs hs
      rw [e1] at ex
      cases ex
      exact ⟨G2, Grow.refl _ _, s2, r.mono g2⟩
    | _ => simp only [iSeqL, e1, Res.bind_ok, dSeqL] at hp; exact hp.elim
theorem ptgH_tup (c : CH M X) {es : List Expr} {kk : Nat} {f2 : List D → Ev → Res Ev} {is : List Nat} (h : PTgs M X es f2 is) (hn : (assignEach es X.env).length = es.length := by rfl) (hst : (assignEach es X.env).findIdx? (·.1) = none := by rfl) : PTg M X (.Tuple es kk pos) (tTupD f2) is := by
  obtain ⟨g, p, q, l⟩ := h
  refine ⟨_, pgTup_hot c.hot p hn hst, fun d v σ G H ε ε' s r h Q hq => ?_⟩
  cases d with
  | tup ds =>
    obtain ⟨a, vs, rfl, ha, rl⟩ := rp_tup.mp r
    refine ⟨a, vs, rfl, by rw [c.hK]; exact sqT_mono s.sub ha, ?_, q ds vs σ G H ε ε' s rl h Q hq⟩
    rw [← rl.length]
    exact l ds ε ε' h
  | _ => cases h
section
variable {elt tg iter : Expr} {ifs : List Expr} {scope : Scope} {own : List (Str × Nat)} {spos py : Pos} {src : Ev → Res (List D × Ev)} {tgt : D → Ev → Res Ev} {is : List Nat} {ft : Ev → Res (Bool × Ev)} {fe : Ev → Res (D × Ev)}
theorem pnH_lc (c : CH M X) (hi : PItH M W X tg iter src) (ok : blkC X.N X.env.scope scope own = true)
    (hg : ∀ (s : Shared) (H : Hp) (C : Addr) (cl : List (Str × Addr)) (fp : List Addr), CH M (hblk X s H scope (compEnvC scope cl C X.env) fp) → PTg M (hblk X s H scope (compEnvC scope cl C X.env) fp) tg tgt is)
    (ht : ∀ (s : Shared) (H : Hp) (C : Addr) (cl : List (Str × Addr)) (fp : List Addr), CH M (hblk X s H scope (compEnvC scope cl C X.env) fp) → PTs' M W0 (hblk X s H scope (compEnvC scope cl C X.env) fp) ifs ft)
    (he : ∀ (s : Shared) (H : Hp) (C : Addr) (cl : List (Str × Addr)) (fp : List Addr), CH M (hblk X s H scope (compEnvC scope cl C X.env) fp) → PV M W0 (hblk X s H scope (compEnvC scope cl C X.env) fp) elt fe)
    (hc : M.cp = none ∨ 0 ∉ own.map (·.2)) (his : ∀ i ∈ is, i ∈ own.map (·.2)) (hs : ∀ x, foldedSetIterable iter X.env x = pure x := by intro _; rfl) :
    PN M W X (.ListComp elt [⟨tg, iter, ifs, 0⟩] scope pos) (eComp (own.map (·.2)) src tgt ft fe) := by
  obtain ⟨wi, ei, qi⟩ := hi
  exact ⟨_, peLc_hot c.hot c.nd ei (blkOk_by ok) (fun s H C cl fp => (hg s H C cl fp (c.blk ..)).pg) (fun s H C cl fp => ht s H C cl fp (c.blk ..)) (fun s H C cl fp => (he s H C cl fp (c.blk ..)).pe) hs, tr_lc qi hc his⟩
theorem psH_setLc (c : CH M X) {i : Nat} {y : Str} (hi : PItH M W X tg iter src) (ok : blkC X.N X.env.scope scope own = true)
    (hg : ∀ (s : Shared) (H : Hp) (C : Addr) (cl : List (Str × Addr)) (fp : List Addr), CH M (hblk X s H scope (compEnvC scope cl C X.env) fp) → PTg M (hblk X s H scope (compEnvC scope cl C X.env) fp) tg tgt is)
    (ht : ∀ (s : Shared) (H : Hp) (C : Addr) (cl : List (Str × Addr)) (fp : List Addr), CH M (hblk X s H scope (compEnvC scope cl C X.env) fp) → PTs' M W0 (hblk X s H scope (compEnvC scope cl C X.env) fp) ifs ft)
    (he : ∀ (s : Shared) (H : Hp) (C : Addr) (cl : List (Str × Addr)) (fp : List Addr), CH M (hblk X s H scope (compEnvC scope cl C X.env) fp) → PV M W0 (hblk X s H scope (compEnvC scope cl C X.env) fp) elt fe)
    (hcc : M.cp = none ∨ 0 ∉ own.map (·.2)) (his : ∀ i ∈ is, i ∈ own.map (·.2)) (hc : M.cp = none ∨ i ≠ 0) (hy : X.N[i]? = some y := by rfl) (hyl : X.env.scope.names.lookup y = some .local := by rfl)
    (hsw : swapsWith (.ListComp elt [⟨tg, iter, ifs, 0⟩] scope pos) (some (.Name y py)) spos.line X.env = pure true := by exact sw_true rfl rfl rfl (by decide +kernel)) (hs : ∀ x, foldedSetIterable iter X.env x = pure x := by intro _; rfl) :
    PS' M W X (.Assign [.Name y py] (.ListComp elt [⟨tg, iter, ifs, 0⟩] scope pos) spos) (sTg (tName i) (eL (eComp (own.map (·.2)) src tgt ft fe))) := by
  obtain ⟨wi, ei, qi⟩ := hi
  exact ⟨_, psLc_hot c.hot c.nd hy hyl hsw ei (blkOk_by ok) (fun s H C cl fp => (hg s H C cl fp (c.blk ..)).pg) (fun s H C cl fp => ht s H C cl fp (c.blk ..)) (fun s H C cl fp => (he s H C cl fp (c.blk ..)).pe) hs, trS_setName (tr_lc qi hcc his).tr hc⟩
end
section
variable {a b e : Expr} {fa fb fe : Ev → Res (D × Ev)}
theorem pvH_add (c : CH M X) (ha : PV M W X a fa) (hb : PV M W X b fb) : PV M W X (.BinOp a .Add b pos) (eOp dAdd fa fb) := by
  obtain ⟨ta, ea, qa⟩ := ha
  obtain ⟨tb, eb, qb⟩ := hb
  exact ⟨_, pe_op (r := rAddAll M.F.K) (by rw [← c.hK]; exact op_addAll) ea eb, tr_op opH_add.opT qa qb⟩
theorem pnH_add (c : CH M X) (ha : PV M W X a fa) (hb : PV M W X b fb) : PN M W X (.BinOp a .Add b pos) (eOpN dCat fa fb) := by
  obtain ⟨ta, ea, qa⟩ := ha
  obtain ⟨tb, eb, qb⟩ := hb
  exact ⟨_, pe_op (r := rAddAll M.F.K) (by rw [← c.hK]; exact op_addAll) ea eb, trN_op opN_cat qa qb⟩
theorem cmH_eq (c : CH M X) : CmpR M W X .Eq dEq := ⟨_, by rw [← c.hK]; exact op_eqD c.un, opH_eq.opT⟩
theorem cmH_ne (c : CH M X) : CmpR M W X .NotEq dNe := ⟨_, by rw [← c.hK]; exact op_neD c.un, opH_ne.opT⟩
theorem psH_set (c : CH M X) {i : Nat} {x : Str} {pos' : Pos} (he : PV M W X e fe) (hc : M.cp = none ∨ i ≠ 0) (hi : X.N[i]? = some x := by rfl) (hx : Loc X.env.scope x := by first | exact Or.inl rfl | exact Or.inr rfl)
    (hs : swapsWith e (some (.Name x pos')) pos.line X.env = pure false := by rfl) (hf : X.fn x = true ∨ X.env.scope.names.lookup x = some .local := by first | exact .inl rfl | exact .inr rfl | assumption) :
    PS' M W X (.Assign [.Name x pos'] e pos) (sTg (tName i) fe) := by
  obtain ⟨t, et, qt⟩ := he
  exact ⟨_, ps_set c.nd hi hx et hs hf, trS_setName qt hc⟩
theorem psH_own (c : CH M X) {i : Nat} {x : Str} {pos' : Pos} {fn : Ev → Res (List D × Ev)} (he : PN M W X e fn) (hc : M.cp = none ∨ i ≠ 0) (hi : X.N[i]? = some x := by rfl) (hx : Loc X.env.scope x := by first | exact Or.inl rfl | exact Or.inr rfl)
    (hs : swapsWith e (some (.Name x pos')) pos.line X.env = pure false := by rfl) (hf : X.fn x = true ∨ X.env.scope.names.lookup x = some .local := by first | exact .inl rfl | exact .inr rfl | assumption) :
    PS' M W X (.Assign [.Name x pos'] e pos) (sOwn i fn) := by
  obtain ⟨t, et, qt⟩ := he
  exact ⟨_, ps_set c.nd hi hx et hs hf, trS_setOwn qt hc⟩
/-! sep.join(words) -/
@[simp] def strsOf : List D → Option (List Str)
  | [] => some []
  | .str x :: r => (strsOf r).bind fun ys => some (x :: ys)
  | _ => none
def dJoin : D → D → Res D
  | .str a, .lst ds => match strsOf ds with
    | some ys => if (ys.map (·.length)).sum + ys.length * a.length ≤ 16777216 then .ok (.str (Txt.join a ys)) else .stuck
    | none => .stuck
  | _, _ => .stuck
@[reducible, simp] def isS (d : D) : Res D := match d with
  | .str a => .ok (.str a)
  | _ => .stuck
@[reducible, simp] def eJoin (fa fe : Ev → Res (D × Ev)) : Ev → Res (D × Ev) := fun ε => (fa ε).bind fun p => (isS p.1).bind fun _ => (fe p.2).bind fun q => (dJoin p.1 q.1).bind fun d => .ok (d, q.2)
theorem strsOf_rp {F : Fx} {G : Hp} : ∀ {ds : List D} {ys : List Str} {vs : List V}, strsOf ds = some ys → RpL F G ds vs → vs = ys.map V.str
  | [], ys, vs, e, r => by
    simp only [strsOf, Option.some.injEq] at e
    subst e
    exact r.of_nil
  | d :: ds, ys, vs, e, r => by
    obtain ⟨v, ws, rfl, rd, rl⟩ := r.of_cons
    cases d with
    | str x =>
      simp only [strsOf] at e
      cases e1 : strsOf ds with
      | none => rw [e1] at e; cases e
      | some zs =>
        rw [e1] at e
        simp only [Option.bind_some, Option.some.injEq] at e
        subst e
        rw [rp_str.mp rd, strsOf_rp e1 rl]
        rfl
    | _ => simp only [strsOf] at e; cases e
theorem pv_join (hK : X.K = M.F.K) {apos : Pos} (ho : PV M W X a fa) (he : PV M W X e fe) (hs : starEach [e] X.env = [(false, eval e X.env)] := by rfl) (hbase : attributeBase a "join" X.env (eval a X.env) = eval a X.env := by rfl) (hline : (apos.endLine == pos.line) = true := by rfl) :
    PV M W X (.Call (.Attribute a "join" apos) [e] [] pos) (eJoin fa fe) := by
  obtain ⟨ta, ea, qa⟩ := ho
  obtain ⟨te, ee, qe⟩ := he
  refine ⟨_, pe_join ea ee hs hbase hline, ?_⟩
  intro σ0 G0 H0 ε0 s0 Q hp0
  refine qa σ0 G0 H0 ε0 s0 _ ?_
  simp only [eJoin] at hp0
  cases e0 : fa ε0 with
  | stuck => rw [e0] at hp0; exact hp0
  | err cc => rw [e0] at hp0; exact hp0
  | ok q0 =>
  rw [e0] at hp0
  intro v G H s st0 rx
  obtain ⟨x, ε⟩ := q0
  cases x with
  | str sx =>
    have hp : Post M W σ0 G H ε (Rp M.F) ((fe ε).bind fun q => (dJoin (.str sx) q.1).bind fun d => .ok (d, q.2)) Q := Post.shift s st0 hp0
    rw [rp_str] at rx
    subst rx
    refine ⟨⟨sx, rfl⟩, qe σ0 G H ε s _ ?_⟩
    cases e1 : fe ε with
    | stuck => rw [e1] at hp; exact hp
    | err cc => rw [e1] at hp; exact hp
    | ok q =>
      rw [e1] at hp
      intro w G1 H1 s1 st1 ry
      have hp1 : Post M W σ0 G1 H1 q.2 (Rp M.F) ((dJoin (.str sx) q.1).bind fun d => .ok (d, q.2)) Q := Post.shift s1 st1 hp
      cases hq : q.1 with
      | lst ds =>
        rw [hq] at ry hp1
        cases h2 : strsOf ds with
        | none => simp only [dJoin, h2] at hp1; exact hp1.elim
        | some ys =>
          simp only [dJoin, h2] at hp1
          split at hp1
          · rename_i hz
            obtain ⟨p, vs, rfl, hp', rl⟩ := rp_lst.mp ry
            have ev := strsOf_rp h2 rl
            subst ev
            exact ⟨sx, p, ys, rfl, rfl, .inl (SqL.of (s1.sub _ _ hp')), hz, hp1 _ G1 H1 s1 (Step.refl ..) (rp_str.mpr rfl)⟩
          · exact hp1.elim
      | _ => rw [hq] at hp1; simp only [dJoin] at hp1; exact hp1.elim
  | _ => exact hp0.elim
end
end
/-! isinstance(e, C), e what is handled: its slot says `.fn 0`, its address is the frame's fa 0 -/
@[reducible, simp] def eIsE (i : Nat) (b : Bool) : Ev → Res (D × Ev) := fun ε => match ε[i]? with
  | some (.pu (.fn 0)) => .ok (.bl b, ε)
  | _ => .stuck
theorem pvH_isE {F : Fx} {cp : Option Addr} {W : WX} {X : Cx} {a Dc Cc : Addr} {oe : Obj} {pn : List (Addr × Obj)} {i : Nat} {b : Bool} {en cn : Str} {p p1 p2 pos : Pos} (hfa : F.fa 0 = a) (C : ExcC X.K Dc) (hz : L2N.Zn (.ref Dc) none oe) (hd : ∃ vs, oe.data = .fields vs)
    (hk : PySem.W.kitOne X.K (.ref Dc) (.ref Cc) = some b) (hm0 : X.mg "isinstance" = none) (hmC : X.mg cn = some (.ref Cc)) (hg0 : Gl X "isinstance" := by rfl) (hgC : Gl X cn := by rfl) (hN : X.N[i]? = some en := by rfl) (hv : Vis X.env.scope en := by first | exact Or.inl rfl | exact Or.inr (Or.inl rfl) | exact Or.inr (Or.inr rfl))
    (h1 : (en == ("__debug__" : Str)) = false := by decide) (h2 : (en == ("__classdict__" : Str)) = false := by decide) (h3 : (cn == ("__debug__" : Str)) = false := by decide) :
    PV ⟨F, cp⟩ W (X.suite a ((a, oe) :: pn)) (.Call (.Name "isinstance" p) [.Name en p1, .Name cn p2] [] pos) (eIsE i b) := by
  have eE : PE (X.suite a ((a, oe) :: pn)) (.Name en p1) (tVar i) := pe_var (X := X.suite a ((a, oe) :: pn)) hN hv h1 h2
  have eC : PE (X.suite a ((a, oe) :: pn)) (.Name cn p2) (tC (.ref Cc)) := pe_glob (X := X.suite a ((a, oe) :: pn)) (u := .ref Cc) hgC hmC rfl h3
  refine ⟨_, pe_callB (call_isE (X := X) C hz.zc hd) hg0 hm0 (by decide +kernel) (L2.pa_cons eE (L2.pa_cons eC L2.pa_nil)), fun σ G H ε s Q hp => ?_⟩
  simp only [eIsE] at hp
  cases e1 : ε[i]? with
  | none => rw [e1] at hp; exact hp.elim
  | some x =>
    rw [e1] at hp
    cases x with
    | em => exact hp.elim
    | ow ds => exact hp.elim
    | pu d =>
      cases d with
      | fn k =>
        cases k with
        | zero =>
          obtain ⟨v, e2, r⟩ := s.pu e1
          simp only [Rp] at r
          subst r
          refine ⟨_, e2, ?_⟩
          exact ⟨.ref Cc, .ref Cc, b, by rw [hfa], fun u r => r, hk, hp _ G H s (Step.refl ..) (rp_bl.mpr rfl)⟩
        | succ k => exact hp.elim
      | _ => exact hp.elim
end PL
/-! PL, part u: a lambda without parameters handed to a def that tries it. -/
namespace PL
open PySem PySem.Spec PyProof.Rows L2 LamX
section
variable {X : Cx} {pins : List (Addr × Obj)} {σ : L2.St} {H HZ : Hp} {s s1 : Shared}
/-- the name of X's lambdas -/
abbrev lamQ (X : Cx) : Str := X.env.qual ++ "<lambda>"
theorem lam_new {T : List (Addr × Str)} {cc P : Addr} {params : Arguments} {body : Expr} {scope : Scope} {pos : Pos} {E : Value → Shared → Prop} {R : Value → Shared → Prop} (I : Inv X pins σ H s) (TB : TabB X.base X.mg cc P) (hcode : X.env.code = .ref cc)
    (hm : (P, lamQ X) ∈ T) (hu : ∀ p ∈ T, p.1 = P → p.2 = lamQ X) (tabs : Tabs T H) (hdef : defaultsOf params X.env = ([], [])) (hfree : ∀ y ∈ scope.names, y.2 = .free → ∃ c, X.env.cells.lookup y.1 = some c)
    (h : ∀ (f c1 : Addr) (pm ctv : Value) (H1 : Hp) (s2 : Shared), Inv X pins σ H1 s2 → ExtN H H1 → (∀ q, H1 q = none → H q = none) → Tabs T H1 →
      s2.heap.get? f = some (PySem.W.kla_obj "<lambda>" (lamQ X) params body scope (cloFrom X.env.cells scope.names []) pm c1 ctv) → H1 f = none → f ∉ frs X.stack → H1 c1 = some (CodeO c1 (lamQ X)) → R (.ref f) s2) :
    wpAny (model X.prog X.w) X.A (eval (.Lambda params body scope pos) X.env) R E s := by
  obtain ⟨ts, atP, okT, amT⟩ := tabs _ hm
  have bP : s.heap.BuiltinsAt X.mg P := TB.bm.keeps I.bk
  have gP := I.hok P _ atP
  have young : ∀ f, s.heap.objs.size ≤ f → f ∉ frs X.stack := fun f hf z => (List.mem_cons.mp (I.stkSub _ z)).elim (fun e => Nat.lt_irrefl _ (Nat.lt_of_lt_of_le (e ▸ I.lt) hf)) fun e => I.nofs hf e
  refine PySem.W.kla_eval hdef ?_
  cases e0 : codeAmong pos ts.toList with
  | some cv =>
    obtain ⟨c1, rfl, hco⟩ := amT pos cv e0
    refine PySem.W.kla_makeFunctionHit (mg := X.mg) (c := cc) (P := P) (ps := ts) (closure_ok hfree) I.ok.glob (I.mod.glob.keeps I.bk) hcode (TB.code.keeps I.bk) gP okT e0 bP fun ctv h2 tk hx hsz => ?_
    exact h h2.objs.size c1 ((X.mg "__name__").getD .none) ctv H { s with heap := _, toks := tk } (I.kept fun b o e => Heap.get?_push_of_some _ (hx b o e)) (ExtN.refl H) (fun _ z => z) tabs (Heap.get?_push_size _ rfl) (I.hok.fresh hsz) (young _ hsz) hco
  | none =>
    refine PySem.W.kla_makeFunction (mg := X.mg) (c := cc) (P := P) (ps := ts) (closure_ok hfree) I.ok.glob (I.mod.glob.keeps I.bk) hcode (TB.code.keeps I.bk) gP okT e0 TB.gP bP fun c1 ctv h2 tk hx hge hlt hrec htb => ?_
    obtain ⟨c2, oc, vs, t, e2, hoc, hd, hv⟩ := hrec
    cases e2
    have big : s.heap.objs.size ≤ h2.objs.size := Nat.le_trans hge (Nat.le_of_lt hlt)
    have nC : H c1 = none := I.hok.fresh hge
    generalize hmore : (#[rawInt pos.line, rawInt pos.col, .ref c1] : Array Value) = more at *
    have J := inv_table (t' := tk) (more := more) (h' := h2.push (PySem.W.kla_obj "<lambda>" (lamQ X) params body scope (cloFrom X.env.cells scope.names []) ((X.mg "__name__").getD .none) c1 ctv)) I atP
      (fun b o hb e => Heap.get?_push_of_some _ (hx b o hb e)) (Heap.get?_push_of_some _ htb) hge ⟨oc, vs, t, Heap.get?_push_of_some _ hoc, hd, hv⟩
    have ex : ExtN H (upd (upd H P (.tbl (ts ++ more))) c1 (CodeO c1 (lamQ X))) := fun b o e n => by
      rw [upd_ne (ne_of_none e nC), upd_ne (fun z : b = P => n ts (Option.some.inj (e.symm.trans (by rw [z]; exact atP))))]
      exact e
    have nn : ∀ q, upd (upd H P (.tbl (ts ++ more))) c1 (CodeO c1 (lamQ X)) q = none → H q = none := fun q z => by
      by_cases h1 : q = c1
      · rw [h1, upd_same] at z; cases z
      · rw [upd_ne h1] at z
        by_cases h3 : q = P
        · rw [h3, upd_same] at z; cases z
        · rwa [upd_ne h3] at z
    refine h h2.objs.size c1 ((X.mg "__name__").getD .none) ctv _ _ J ex nn (fun p hp => ?_) (Heap.get?_push_size _ rfl) ?_ (young _ big) upd_same
    · by_cases hb : p.1 = P
      · have eL : (ts ++ more).toList = ts.toList ++ [rawInt pos.line, rawInt pos.col, .ref c1] := by rw [← hmore]; simp
        rw [hu p hp hb, hb]
        refine ⟨_, by rw [upd_ne (ne_of_none atP nC), upd_same], by rw [eL]; exact PySem.TriplesOk_snoc _ _ _ _ okT, fun p2 cv hcv => ?_⟩
        rw [eL] at hcv
        rcases among_app _ okT hcv with z | z
        · obtain ⟨c0, q1, q2⟩ := amT p2 cv z
          exact ⟨c0, q1, ex _ _ q2 codeO_ne⟩
        · exact ⟨c1, z, upd_same⟩
      · obtain ⟨us, a1, a2, a3⟩ := tabs p hp
        refine ⟨us, by rw [upd_ne (ne_of_none a1 nC), upd_ne hb]; exact a1, a2, fun p2 cv hcv => ?_⟩
        obtain ⟨c0, q1, q2⟩ := a3 p2 cv hcv
        exact ⟨c0, q1, ex _ _ q2 codeO_ne⟩
    · rw [upd_ne (Nat.ne_of_gt hlt), upd_ne (Nat.ne_of_gt (Nat.lt_of_lt_of_le (Heap.lt_size gP) big))]
      exact I.hok.fresh big

/-- the context of the lambda's body: exceptions go out with their context None -/
def lamN (X : Cx) (A : Around) (outer : List Env) (s : Shared) (H : Hp) (E : XK) (scope : Scope) (f c1 : Addr) : Cx :=
  (lamCx X A outer s H E scope f c1).wish fun e s2 => wpAny (model X.prog X.w) (A.deeper (lamEnv X scope s.heap.objs.size f c1)) (leaving (lamEnv X scope s.heap.objs.size f c1) e) (fun _ s3 => L2N.CX X.prog X.w outer H s E e s3) (fun u s3 => L2N.CX X.prog X.w outer H s E u s3) s2
theorem takesN {A : Around} {outer : List Env} {E : XK} {scope : Scope} {f c1 : Addr} : L2N.Takes (lamN X A outer s H E scope f c1) (fun cls d _ H2 => E cls d H2) := L2N.takes_of rfl rfl rfl rfl
/-- the call of what the def got -/
theorem act_N {CXg : CXT} {Eg : XK} {Ng : List Str} {qg : Str} {sg : Scope} {g f c1 : Addr} {cdg pm ctv : Value} {params : Arguments} {body : Expr} {scope : Scope} {k i : Nat} {a : Str} {pn : List (Addr × Obj)} {xe : Value → Shared → Prop} {W : WX} {E : XK} {tb : TE} {p1 p2 : Pos}
    (I : Inv X pins σ H s) (L : LamS X.env.scope scope) (hf : s.heap.get? f = some (PySem.W.kla_obj "<lambda>" (lamQ X) params body scope (cloFrom X.env.cells scope.names []) pm c1 ctv)) (hfn : H f = none) (hfr : f ∉ frs X.stack)
    (hbind : bindArgs (PySem.W.kla_fn "<lambda>" (lamQ X) params body scope (cloFrom X.env.cells scope.names []) pm (.ref c1) ctv) ⟨[], []⟩ = pure [])
    (tk : L2N.Takes ((cxOf CXg X.prog X.w X.K X.mg X.base Ng qg sg g cdg X.A X.stack s H Eg).tr pn xe) W) (hr : Room (k + 1) (X.A.deeper (envOfC qg sg s.heap.objs.size g cdg)))
    (hbody : ∀ (A : Around) (outer : List Env) (s : Shared) (H : Hp), Room k (A.deeper (lamEnv X scope s.heap.objs.size f c1)) → PE (lamN X A outer s H E scope f c1) body tb)
    (hN : Ng[i]? = some a) (hv : Vis sg a) (hd : (a == ("__debug__" : Str)) = false) (hcd : (a == ("__classdict__" : Str)) = false) :
    PE ((cxOf CXg X.prog X.w X.K X.mg X.base Ng qg sg g cdg X.A X.stack s H Eg).tr pn xe) (.Call (.Name a p1) [] [] p2)
      (fun σZ HZ Q => (∀ cls d H2, E cls d H2 → W cls d σZ H2) ∧ σZ[i]? = some (some (.ref f)) ∧ HZ c1 = some (CodeO c1 (lamQ X)) ∧ tb σ HZ Q) := by
  refine ⟨fun pinsZ sZ σZ HZ Q IZ ⟨hW, hs, hc, ht⟩ => ?_⟩
  refine wpAny_Call_Name_kw (thn ((pe_var (pos := p1) (i := i) hN hv hd hcd).run pinsZ sZ σZ HZ (fun v H1 => v = .ref f ∧ H1 = HZ) IZ ⟨.ref f, hs, rfl, rfl⟩) fun u s1 ⟨v, H1, I1, r1, ev, eH⟩ => ?_)
  subst ev
  subst eH
  cases r1
  have un : Un (frs X.stack) [] H H1 s.heap s1.heap := I1.base
  have here : s1.heap.get? f = some (PySem.W.kla_obj "<lambda>" (lamQ X) params body scope (cloFrom X.env.cells scope.names []) pm c1 ctv) := un.keep f _ hf hfn hfr fun z => nomatch z
  refine PySem.W.callWith_F0 ⟨_, _, _, _, here⟩ (wpAny_call (codeAny_mono (R := CR (L2N.CX X.prog X.w) (envOfC qg sg s.heap.objs.size g cdg :: X.stack) X.prog X.w H1 s1 Q E) ?_ fun r s2 hq => ?_))
  · obtain ⟨⟨oc, vs, t, hoc, hdc, hvc⟩, _, _⟩ := I1.hok c1 _ hc
    refine PySem.W.kla_callFunE hr.depth here rfl L.co L.gen rfl ⟨c1, oc, vs, t, rfl, hoc, hdc, hvc⟩ ?_
    have hb2 : bindArgs (PySem.W.kla_fn "<lambda>" (lamQ X) params body scope (cloFrom X.env.cells scope.names []) pm (.ref c1) ctv) ⟨[] ++ [], []⟩ = pure [] := hbind
    rw [hb2]
    refine wpAny_pure (wpAny_newFunctionEnv (fun y hy => (L.own y hy).2) (fun y hy => absurd hy (by simp)) (fun h1 hns hsb => ⟨I1.nolimit.fresh _ hsb, ?_⟩) L.kind)
    have kp : ∀ b o, s1.heap.get? b = some o → h1.get? b = some o := fun b o e => hsb.extBut b o (Nat.ne_of_lt (Heap.lt_size e)) (Heap.get?_push_of_some _ e)
    have J := lam_start2 (A := X.A.deeper (envOfC qg sg s.heap.objs.size g cdg)) (outer := envOfC qg sg s.heap.objs.size g cdg :: X.stack) (E := E) (f := f) (c' := c1) (tk := s1.toks + ([] : List (Str × Value)).length) I L I1.env0 hr.hd un hns kp
    refine PySem.W.kla_codeExpr (wpAny_mono ((hbody _ _ s1 H1 (hr.deeper _)).run [] _ _ H1 Q (J.wish _) ht) (fun v s2 ⟨w2, H2, J2, rv, q⟩ => ?_) fun e s2 hq => hq)
    exact ⟨w2, H2, J2.os, J2.bare, J2.base, J2.hok, rv, q⟩
  · cases r with
    | error e => exact tk e s2 (L2N.XE.of_call I1 (fun cls d H2 z => hW cls d H2 z) hq)
    | ok fl =>
      cases fl with
      | ret u => exact I1.after hq
      | next => exact False.elim hq
      | brk => exact False.elim hq
      | cont => exact False.elim hq
end
end PL
/-! PL, part v: the def that tries what it got; the call with a lambda. -/
namespace PL
open PySem PySem.Spec PyProof.Rows L2 LamX L2H
def EndOk (F : Fx) (Q : VK) (x : Str) (H1 : Hp) : Prop :=
  Tabs F.T H1 ∧ ∀ H2 : Hp, (∀ q o, H1 q = some o → (∀ ps, o ≠ .tbl ps) → H2 q = some o) → (∀ q, H2 q = none → H1 q = none) → Tabs F.T H2 → Q (.str x) H2
/-- what may come out of the call: a class of the table; the suite answers its words -/
def ErrX (F : Fx) (ok : Nat → Bool) (wd : Nat → Str) (Q : VK) : XK := fun cls d H1 => ∃ c, ok c = true ∧ cls = .ref (F.ca c) ∧ d = none ∧ EndOk F Q (wd c) H1
abbrev exF (F : Fx) (a : Addr) : Fx := { F with fa := fun _ => a }
def startX (n i : Nat) : Ev := (List.replicate n .em).set i (.pu (.fn 0))
abbrev errC (P : Program) (w : World) (K : PySem.W.Frag) (mg : Str → Option Value) (base : Heap) (Ng : List Str) (x : Str) (sg : Scope) (g : Addr) (cdv : Value) (A : Around) (stack : List Env) (s : Shared) (H : Hp) : Cx :=
  cxOf C8.CX0 P w K mg base Ng x sg g cdv A stack s H C8.E0
/-- the text that a suite returns -/
def rtS : Out → Option Str
  | .rt (.str x) _ => some x
  | _ => none
theorem rt_some {r : Out} (h : (rtS r).isSome = true) : ∃ ε2, r = .rt (.str ((rtS r).getD "")) ε2 := by
  cases r with
  | rt d ε =>
    cases d with
    | str x => exact ⟨ε, rfl⟩
    | _ => cases h
  | _ => cases h
structure EFn (F : Fx) (P : Program) (w : World) (K : PySem.W.Frag) (mg : Str → Option Value) (base : Heap) (x a dn : Str) (ok : Nat → Bool) (wd : Nat → Str) : Prop where
  ex : ∃ (g : Addr) (Ng : List Str) (sg : Scope) (pg : Arguments) (bg : List Stmt) (kV doc pm cdv ct oc : Value) (an od : Option Addr) (osl : Array (Option Value)),
    mg x = some (.ref g) ∧ PySem.W.keepIn K (.ref g) = true ∧ K.lookup g = some ⟨oc, od, .func (PySem.W.fnOf x x pg bg sg .none kV doc pm an cdv ct), osl⟩ ∧ PySem.W.codeIn K cdv x = true ∧
    L2.Binds K (PySem.W.fnOf x x pg bg sg .none kV doc pm an cdv ct) [a] [] ∧ FnScope Ng [a] sg ∧ Ng[0]? = some a ∧ Vis sg a ∧
    ∀ (A : Around) (stack : List Env) (f c1 : Addr) (s : Shared) (H : Hp) (q : Str) (Q : VK) (tl : XK → Hp → VK → Prop), Room 0 (A.deeper (envOfC x sg s.heap.objs.size g cdv)) →
      (∀ (W : WX) (pn : List (Addr × Obj)) (xe : Value → Shared → Prop) (E : XK) (p1 p2 : Pos), L2N.Takes ((errC P w K mg base Ng x sg g cdv A stack s H).tr pn xe) W →
        PE ((errC P w K mg base Ng x sg g cdv A stack s H).tr pn xe) (.Call (.Name a p1) [] [] p2) (fun σZ HZ R => (∀ cls d H2, E cls d H2 → W cls d σZ H2) ∧ σZ[0]? = some (some (.ref f)) ∧ HZ c1 = some (CodeO c1 q) ∧ tl E HZ R)) →
      H c1 = some (CodeO c1 q) → tl (ErrX F ok wd Q) H (fun _ H1 => Q (.str dn) H1) →
      ∃ t, PSs (errC P w K mg base Ng x sg g cdv A stack s H).nox bg t ∧ t { nx := fun _ H1 => Q .non H1, rt := Q } (L2.start Ng [.ref f]) H
section
variable {F : Fx} {P : Program} {w : World} {K : PySem.W.Frag} {mg : Str → Option Value} {base : Heap}
theorem start_len (Ng : List Str) (v : V) (h : 1 ≤ Ng.length) : (L2.start Ng [v]).length = Ng.length := by
  unfold L2.start
  simp only [List.length_append, List.length_map, List.length_replicate, List.length_cons, List.length_nil]
  omega
theorem startX_get {n i j : Nat} {x : Slot} (h : (startX n i)[j]? = some x) : (j = i ∧ x = .pu (.fn 0)) ∨ x = .em := by
  unfold startX at h
  by_cases hj : i = j
  · subst hj
    have hl := (List.getElem?_eq_some_iff.mp h).1
    rw [List.getElem?_set_self (by simpa using hl)] at h
    exact .inl ⟨rfl, (Option.some.inj h).symm⟩
  · rw [List.getElem?_set_ne hj, List.getElem?_replicate] at h
    split at h
    · exact .inr (Option.some.inj h).symm
    · cases h
theorem startX_own {n i : Nat} {σ : L2.St} {q : Addr} : ¬ Own σ (startX n i) q := fun ⟨j, ds, e, _⟩ => by
  rcases startX_get e with ⟨_, z⟩ | z <;> cases z
/-- at the suite's beginning nothing but the exception is known -/
theorem sr_startX {a : Addr} {H : Hp} {σ : L2.St} {n i : Nat} (tabs : Tabs F.T H) (hl : σ.length = n) : SR ⟨exF F a, none⟩ (fun _ => none) H (σ.set i (some (.ref a))) (startX n i) := by
  refine ⟨fun _ _ h => (nomatch h), fun _ _ h => (nomatch h), tabs, by simp [startX, hl], fun j x o e1 e2 => ?_, fun j l ds es q e1 _ _ _ => ?_, fun p h => (nomatch h)⟩
  · rcases startX_get e1 with ⟨rfl, rfl⟩ | rfl
    · have hj := (List.getElem?_eq_some_iff.mp e2).1
      rw [List.getElem?_set_self (by simpa using hj)] at e2
      cases e2
      exact ⟨.ref a, rfl, by simp only [Rp]⟩
    · trivial
  · rcases startX_get e1 with ⟨_, z⟩ | z <;> cases z
theorem efn_of (hF : F.K = K) {x a dn rn en : Str} {st : Stmt} {g : Addr} {fd : FuncData} {Ng : List Str} {i j : Nat} {CR : Addr} {b₀ : Stmt} {suite : List Stmt} {p1 p2 p3 p4 p5 p6 p7 p8 : Pos} {ok : Nat → Bool} {wd : Nat → Str}
    (Fu : Fun K x x st g fd) (gm : mg x = some (.ref g)) (S : FnScope Ng [a] (defScope st))
    (hst : defBody st = [.Try [.Expr (.Call (.Name a p1) [] [] p2) p3] [.ExceptHandler (some (.Name rn p4)) (some en) (b₀ :: suite) p5] [] [] p6, .Return (some (.Constant (.str dn) j p7)) p8])
    (h0 : Ng[0]? = some a) (hva : Vis (defScope st) a) (hi : Ng[i]? = some en) (hln : (defScope st).names.lookup en = some .local) (hge : (defScope st).names.lookup rn = some .globalImplicit) (hme : mg rn = some (.ref CR)) (hde : (rn == ("__debug__" : Str)) = false)
    (hsub : ∀ c, ok c = true → PySem.W.exmOne K (.ref (F.ca c)) (.ref CR) = some true) (hb : Binds K fd [a] [])
    (hsu : ∀ (cdv : Value) (A : Around) (stack : List Env) (s : Shared) (H : Hp) (e : Addr) (oe : Obj) (pn : List (Addr × Obj)) (c : Nat), ok c = true → L2N.Zn (.ref (F.ca c)) none oe → (∃ vs, oe.data = .fields vs) →
      CH ⟨exF F e, none⟩ ((errC P w K mg base Ng x (defScope st) g cdv A stack s H).nox.suite e ((e, oe) :: pn)) →
      ∃ (body : Ev → Out) (ε2 : Ev), PSs' ⟨exF F e, none⟩ W0 ((errC P w K mg base Ng x (defScope st) g cdv A stack s H).nox.suite e ((e, oe) :: pn)) (b₀ :: suite) body ∧ body (startX Ng.length i) = .rt (.str (wd c)) ε2) :
    EFn F P w K mg base x a dn ok wd := by
  obtain ⟨oc, od, kV, doc, pm, an, cdv, ct, osl, rfl, lk, hcd⟩ := Fu.ex
  have hN1 : 1 ≤ Ng.length := (List.getElem?_eq_some_iff.mp h0).1
  refine ⟨g, Ng, defScope st, defArgs st, defBody st, kV, doc, pm, cdv, ct, oc, an, od, osl, gm, Fu.kp, lk, hcd, hb, S, h0, hva, ?_⟩
  intro A stack f c1 s H q Q tl hroom act hc ht
  obtain ⟨Z, hZ⟩ : ∃ Z, Z = (errC P w K mg base Ng x (defScope st) g cdv A stack s H).nox := ⟨_, rfl⟩
  -- the suite's reading
  let ts : Addr → Value → Option Addr → TS := fun e cls d D σ H1 => ∀ (oe : Obj) (pn : List (Addr × Obj)), L2N.Zn cls d oe → (∃ vs, oe.data = .fields vs) → ∃ t, PSs ((errC P w K mg base Ng x (defScope st) g cdv A stack s H).nox.suite e ((e, oe) :: pn)) (b₀ :: suite) t ∧ t D σ H1
  have hcb : Names (errC P w K mg base Ng x (defScope st) g cdv A stack s H).nox rn (.ref CR) := ⟨hge, hde, .inl hme⟩
  have tr := L2N.ps_try_as (X := (errC P w K mg base Ng x (defScope st) g cdv A stack s H).nox) (x := rn) (n := en) (c := .ref CR) (i := i) (body := [.Expr (.Call (.Name a p1) [] [] p2) p3]) (suite := suite) (b₀ := b₀) (np := p4) (pos := p6) (pos' := p5)
    (tb := fun W D σZ HZ => ∃ E : XK, (∀ cls d H2, E cls d H2 → W cls d σZ H2) ∧ σZ[0]? = some (some (.ref f)) ∧ HZ c1 = some (CodeO c1 q) ∧ tl E HZ (fun _ H2 => D.nx σZ H2)) (ts := ts) (Wout := W0) rfl rfl S.nd hi hln hcb takes00
    (fun W pn xe tk _ => ⟨fun pins s2 σZ HZ D IZ ⟨E, e1, e2, e3, e4⟩ => (pss_one (ps_expr (act W pn xe E p1 p2 tk))).run pins s2 σZ HZ D IZ ⟨e1, e2, e3, e4⟩⟩)
    (fun e oe cls d pn hz hd => ⟨fun pins s2 σZ HZ D IZ h => (h oe pn hz hd).elim fun t z => z.1.run pins s2 σZ HZ D IZ z.2⟩)
  rw [hst]
  refine ⟨_, pss_cons tr (pss_one (ps_ret pe_str)), ErrX F ok wd Q, fun cls d H1 ⟨c, okc, ec, ed, tabs, fin⟩ => ?_, rfl, hc, ht⟩
  subst ec ed
  refine ⟨true, hsub c okc, fun _ e ne oe pn hz hd => ?_, fun z => nomatch z⟩
  have hot : HotC ((errC P w K mg base Ng x (defScope st) g cdv A stack s H).nox.suite e ((e, oe) :: pn)) := by
    obtain ⟨vs, hv⟩ := hd
    exact ⟨(e, oe), ⟨rfl, vs, hv, hz.2.2 vs hv⟩, List.mem_cons_self⟩
  obtain ⟨body, ε2, ⟨t, et, qt⟩, eb⟩ := hsu cdv A stack s H e oe pn c okc hz hd ⟨hF.symm, S.nd, hot, hroom.units⟩
  refine ⟨t, et, qt _ (fun _ => none) H1 (startX Ng.length i) (sr_startX tabs (start_len Ng _ hN1)) _ ?_⟩
  rw [eb]
  intro v σ2 G2 H2 s2 st2 r
  rw [rp_str] at r
  subst r
  exact fin H2 (fun q o h nt => st2.hh q o h nt startX_own) st2.hs s2.tabs
end
/-- the maker's code object and its table -/
structure TabC (M : Fr) (X : Cx) : Prop where
  ex : ∃ cc P, TabB X.base X.mg cc P ∧ X.env.code = .ref cc ∧ (P, lamQ X) ∈ M.F.T ∧ ∀ p ∈ M.F.T, p.1 = P → p.2 = lamQ X
theorem TabC.blk {M : Fr} {X : Cx} (t : TabC M X) (s : Shared) (H : Hp) (scope : Scope) (cl : List (Str × Addr)) (C : Addr) (fp : List Addr) : TabC M (X.blk s H scope (compEnvC scope cl C X.env) fp) := ⟨t.ex⟩
@[reducible] def errR (dn : Str) (ok : Nat → Bool) (wd : Nat → Str) (ε : Ev) : Res D → Res (D × Ev)
  | .ok _ => .ok (.str dn, ε)
  | .err c => if ok c then .ok (.str (wd c), ε) else .stuck
  | .stuck => .stuck
@[reducible] def eErrG (dn : Str) (ok : Nat → Bool) (wd : Nat → Str) (sel : Ev → Option (List D → Res D)) (fs : Ev → Res (List D × Ev)) : Ev → Res (D × Ev) := fun ε => match sel ε with
  | some g => (fs ε).ne.bind fun p => errR dn ok wd p.2 (g p.1)
  | none => .stuck
/-- the def is named -/
@[reducible] def eErr (dn : Str) (ok : Nat → Bool) (wd : Nat → Str) (g : List D → Res D) (fs : Ev → Res (List D × Ev)) : Ev → Res (D × Ev) := eErrG dn ok wd (fun _ => some g) fs
/-- the slot i holds it -/
@[reducible] def selV (i : Nat) (gs : Nat → Option (List D → Res D)) : Ev → Option (List D → Res D) := fun ε => match ε[i]? with
  | some (.pu (.fn k)) => gs k
  | _ => none
@[reducible] def eErrV (dn : Str) (ok : Nat → Bool) (wd : Nat → Str) (i : Nat) (gs : Nat → Option (List D → Res D)) (fs : Ev → Res (List D × Ev)) : Ev → Res (D × Ev) := eErrG dn ok wd (selV i gs) fs
theorem tOf_pa {M : Fr} {W : WX} {Y : Cx} {es : List Expr} {fs : Ev → Res (List D × Ev)} (h : PA' M W Y es fs) : PA Y es (tOf M W (RpL M.F) fs) := by
  obtain ⟨⟨t, et, q⟩, _⟩ := h
  exact ⟨fun pos pins s σ H Q I ⟨G, ε, r, p⟩ => et.run pos pins s σ H Q I (q σ G H ε r Q p)⟩
section
variable {M : Fr} {W : WX} {X : Cx} {k : Nat} {pos : Pos}
theorem co_lam (c : CO M W k X) {A : Around} {outer : List Env} {s : Shared} {H : Hp} {E : XK} {scope : Scope} {f c1 : Addr} {k2 : Nat} (hr : Room k2 (A.deeper (lamEnv X scope s.heap.objs.size f c1))) : CO M W0 k2 (lamN X A outer s H E scope f c1) :=
  ⟨c.hK, rfl, takes00, c.nd, hr, passes_of rfl⟩
theorem pv_lawerrG (c : CO M W k X) {x a dn : Str} {ok : Nat → Bool} {wd : Nat → Str} {k2 n : Nat} {body : Expr} {fs : Ev → Res (List D × Ev)} {params : Arguments} {scope : Scope} {p lpos : Pos} {sel : Ev → Option (List D → Res D)} {sl : (List D → Res D) → L2.St → Prop}
    (hE : EFn M.F X.prog X.w X.K X.mg X.base x a dn ok wd) (hk : k2 + 2 ≤ k) (tb : TabC M X) (hlen : ∀ {ε : Ev} {q : List D × Ev}, fs ε = .ok q → q.1.length = n)
    (hsel : ∀ (G H : Hp) (σ : L2.St) (ε : Ev) (g : List D → Res D), SR M G H σ ε → sel ε = some g → sl g σ)
    (bd : ∀ (E : XK) (A : Around) (outer : List Env) (s3 : Shared) (H3 : Hp) (f c1 : Addr), CO M W0 k2 (lamN X A outer s3 H3 E scope f c1) → PE (lamN X A outer s3 H3 E scope f c1) body (fun σ H Q => ∃ g, sl g σ ∧ tOf M W0 (RpL M.F) fs σ H fun vs H2 => SpP M.F n g vs H2 Q E))
    (L : LamS X.env.scope scope) (hg : Gl X x) (hdef : defaultsOf params X.env = ([], [])) (hbind : ∀ (q : Str) (cl : List (Str × Addr)) (pm cv ctv : Value), bindArgs (PySem.W.kla_fn "<lambda>" q params body scope cl pm cv ctv) ⟨[], []⟩ = pure [])
    (hx : (x == ("__debug__" : Str)) = false) (ha1 : (a == ("__debug__" : Str)) = false) (ha2 : (a == ("__classdict__" : Str)) = false) : PV M W X (.Call (.Name x p) [.Lambda params body scope lpos] [] pos) (eErrG dn ok wd sel fs) := by
  obtain ⟨gg, Ng, sg, pg, bg, kV, doc, pm, cdv, ct, oc, an, od, osl, gm, kp, lk, hcd, hb, S, h0, hva, gives⟩ := hE.ex
  obtain ⟨cc, P, TB, hcode, hmT, hu⟩ := tb.ex
  refine ⟨fun σ H Q => Tabs M.F.T H ∧ ∀ H1, ExtN H H1 → (∀ q, H1 q = none → H q = none) → Tabs M.F.T H1 → ∃ g, sl g σ ∧ tOf M W0 (RpL M.F) fs σ H1 (fun vs H2 => SpP M.F n g vs H2 (fun _ H3 => Q (.str dn) H3) (ErrX M.F ok wd Q)), ?_, ?_⟩
  · refine ⟨fun pins s σ H Q I ⟨hT, h⟩ => ?_⟩
    refine wpAny_Call_Name_kw (ld_glob I hg gm ?_ hx)
    refine PySem.W.callWith_K (h₀ := X.base) I.ok.mod.kin kp ?_ (by rfl) (by rfl)
    refine Calls.spliced_cons (lam_new I TB hcode hmT hu hT hdef (L.has I.ok) fun f c1 pm1 ctv H1 s2 I1 eN nn T1 hf hfn hfr hco => ?_)
    refine Calls.spliced_nil ⟨I1.kIn, ?_⟩
    have rc : codeAny (model X.prog X.w) X.A (.call (.ref gg) ⟨[.ref f], []⟩) (CR C8.CX0 X.stack X.prog X.w H1 s2 Q C8.E0) s2 := by
      refine run_ofS (N := Ng) (ps := [a]) (us := [.ref f]) (vs := [.ref f]) lk hcd S (c.hr.mono hk) I1.env0 (hb s2 [.ref f] I1.kIn rfl) (.cons rfl .nil) rfl fun hr2 => ?_
      obtain ⟨t, et, ht⟩ := gives X.A X.stack f c1 s2 H1 (lamQ X) Q (fun E H2 R => ∃ g, sl g σ ∧ tOf M W0 (RpL M.F) fs σ H2 fun vs H3 => SpP M.F n g vs H3 R E) (hr2.mono (Nat.zero_le _))
        (fun W2 pn xe E p1 p2 tk => act_N (i := 0) I1 L hf hfn hfr (hbind _ _ _ _ _) tk hr2 (fun A outer s3 H3 hr3 => bd E A outer s3 H3 f c1 (co_lam c hr3)) h0 hva ha1 ha2) hco (h H1 eN nn T1)
      exact ⟨t, et.nox, ht⟩
    refine wpAny_call (codeAny_mono rc fun r s3 hq => ?_)
    cases r with
    | error u => exact (show False from hq).elim
    | ok fl =>
      cases fl with
      | ret u => exact I1.after hq
      | next => exact False.elim hq
      | brk => exact False.elim hq
      | cont => exact False.elim hq
  · intro σ G H ε s Q hp
    refine ⟨s.tabs, fun H1 eN nn T1 => ?_⟩
    have gr : Grow G H G H1 := ⟨fun _ _ h => h, eN, nn, fun _ _ h => .inl h⟩
    have s1 : SR M G H1 σ ε := s.grow gr (fun q o h => eN q o (s.sub q o h) fun ps z => s.ntb q ps (z ▸ h)) s.ntb T1
    have hp1 := Post.shift s1 (gr.step _) hp
    simp only [eErrG] at hp1
    cases e0 : sel ε with
    | none => rw [e0] at hp1; exact hp1.elim
    | some g =>
    rw [e0] at hp1
    simp only at hp1
    refine ⟨g, hsel G H1 σ ε g s1 e0, G, ε, s1, ?_⟩
    cases e1 : fs ε with
    | stuck => rw [e1] at hp1; exact hp1.elim
    | err cc => rw [e1] at hp1; exact hp1.elim
    | ok q =>
      rw [e1] at hp1
      simp only [Res.ne_ok, Res.bind_ok] at hp1
      intro vs G2 H2 s2 st2 rs
      refine ⟨q.1, G2, hlen e1, s2.hg, rs, ?_⟩
      cases e2 : g q.1 with
      | stuck => rw [e2] at hp1; exact hp1.elim
      | ok dd =>
        rw [e2] at hp1
        exact fun v G3 H3 g3 hg3 r => hp1 (.str dn) G3 H3 (s2.grow g3 hg3.sub hg3.ntb hg3.tabs) (st2.trans s2.sub (g3.step _)) (rp_str.mpr rfl)
      | err ce =>
        rw [e2] at hp1
        simp only [errR] at hp1
        split at hp1
        · rename_i hok
          intro G3 H3 g3 hg3
          have s3 := s2.grow g3 hg3.sub hg3.ntb hg3.tabs
          have st3 := st2.trans s2.sub (g3.step (Own σ q.2))
          refine ⟨ce, hok, rfl, rfl, hg3.tabs, fun H4 hh hs T4 => ?_⟩
          have g4 : Grow G3 H3 G3 H4 := ⟨fun _ _ h => h, hh, hs, fun _ _ h => .inl h⟩
          exact hp1 (.str (wd ce)) G3 H4 (s3.grow g4 (fun q o h => hh q o (s3.sub q o h) fun ps z => s3.ntb q ps (z ▸ h)) s3.ntb T4) (st3.trans s3.sub (g4.step _)) (rp_str.mpr rfl)
        · exact hp1.elim
section
variable {x y a dn : Str} {ok : Nat → Bool} {wd : Nat → Str} {k2 n : Nat} {e : Expr} {es : List Expr} {fs : Ev → Res (List D × Ev)} {params : Arguments} {scope : Scope} {p p3 p4 lpos : Pos}
theorem lam_len (c : CO M W k X) (hk : k2 + 2 ≤ k) (ha : ∀ (A : Around) (outer : List Env) (s : Shared) (H : Hp) (E : XK) (f c1 : Addr), CO M W0 k2 (lamN X A outer s H E scope f c1) → PA' M W0 (lamN X A outer s H E scope f c1) (e :: es) fs) (hn : (e :: es).length = n) {ε : Ev} {q : List D × Ev} (e1 : fs ε = .ok q) : q.1.length = n := by
  have r1 : Room (k2 + 1) X.A := (c.hr.mono hk).mono (Nat.le_succ _)
  have z : LenOk (e :: es).length fs := (ha X.A X.stack X.s_0 X.H_0 (fun _ _ _ => False) 0 0 (co_lam c (r1.deeper _))).2
  rw [z _ _ e1]
  exact hn
theorem pv_lawerr (c : CO M W k X) {g : List D → Res D} (hE : EFn M.F X.prog X.w X.K X.mg X.base x a dn ok wd) (d : DOk M.F X.prog X.w X.K X.mg X.base y k2 n (SpP M.F n g)) (hk : k2 + 2 ≤ k) (tb : TabC M X)
    (ha : ∀ (A : Around) (outer : List Env) (s : Shared) (H : Hp) (E : XK) (f c1 : Addr), CO M W0 k2 (lamN X A outer s H E scope f c1) → PA' M W0 (lamN X A outer s H E scope f c1) (e :: es) fs)
    (hn : (e :: es).length = n := by rfl) (L : LamS X.env.scope scope := by exact LamX.lamS_by rfl) (hg : Gl X x := by rfl) (hgy : scope.names.lookup y = some .globalImplicit := by rfl) (hdef : defaultsOf params X.env = ([], []) := by rfl)
    (hbind : ∀ (q : Str) (cl : List (Str × Addr)) (pm cv ctv : Value), bindArgs (PySem.W.kla_fn "<lambda>" q params (.Call (.Name y p3) (e :: es) [] p4) scope cl pm cv ctv) ⟨[], []⟩ = pure [] := by intros; rfl)
    (hx : (x == ("__debug__" : Str)) = false := by decide) (hy : (y == ("__debug__" : Str)) = false := by decide) (ha1 : (a == ("__debug__" : Str)) = false := by decide) (ha2 : (a == ("__classdict__" : Str)) = false := by decide)
    (hse : ∀ env : Env, starEach (e :: es) env = (false, eval e env) :: starEach es env := by intro _; rfl) (hpl : ∀ env : Env, (backTo p4 (starEach es env)).any (·.1) = false := by intro _; rfl) :
    PV M W X (.Call (.Name x p) [.Lambda params (.Call (.Name y p3) (e :: es) [] p4) scope lpos] [] pos) (eErr dn ok wd g fs) := by
  obtain ⟨fy, fdy, psy, Fy, gmy, kpy, by_⟩ := d.ex
  refine pv_lawerrG (n := n) (sl := fun g2 _ => g2 = g) c hE hk tb (lam_len c hk ha hn) (fun _ _ _ _ g2 _ z => (Option.some.inj z).symm) (fun E A outer s3 H3 f c1 cl => ⟨fun pins s σ H Q I ⟨g2, hg2, h⟩ => ?_⟩) L hg hdef hbind hx ha1 ha2
  subst hg2
  exact (pe_callS (X := lamN X A outer s3 H3 E scope f c1) Fy cl.hr hgy gmy kpy by_ (fun σ2 => L2N.passAt takesN σ2) (tOf_pa (ha A outer s3 H3 E f c1 cl)) hy (hse _) (hpl _)).run pins s σ H Q I h
/-- the table of the defs that a slot may hold -/
def DVs (F : Fx) (P : Program) (w : World) (K : PySem.W.Frag) (mg : Str → Option Value) (base : Heap) (k n : Nat) (gs : Nat → Option (List D → Res D)) : Prop := ∀ kf g, gs kf = some g → ∃ (fd : FuncData) (ps : List Str), FnOk P w K mg base (L2N.CX P w) k (F.fa kf) fd ps (SpP F n g) ∧ PySem.W.keepIn K (.ref (F.fa kf)) = true ∧ Binds K fd ps []
theorem pv_lawerrV (c : CO M W k X) (i : Nat) {gs : Nat → Option (List D → Res D)} (hE : EFn M.F X.prog X.w X.K X.mg X.base x a dn ok wd) (d : DVs M.F X.prog X.w X.K X.mg X.base k2 n gs) (hk : k2 + 2 ≤ k) (tb : TabC M X)
    (ha : ∀ (A : Around) (outer : List Env) (s : Shared) (H : Hp) (E : XK) (f c1 : Addr), CO M W0 k2 (lamN X A outer s H E scope f c1) → PA' M W0 (lamN X A outer s H E scope f c1) (e :: es) fs)
    (hn : (e :: es).length = n := by rfl) (L : LamS X.env.scope scope := by exact LamX.lamS_by rfl) (hg : Gl X x := by rfl) (hN : X.N[i]? = some y := by rfl) (hv : Vis scope y := by first | exact Or.inl rfl | exact Or.inr (Or.inl rfl) | exact Or.inr (Or.inr rfl)) (hdef : defaultsOf params X.env = ([], []) := by rfl)
    (hbind : ∀ (q : Str) (cl : List (Str × Addr)) (pm cv ctv : Value), bindArgs (PySem.W.kla_fn "<lambda>" q params (.Call (.Name y p3) (e :: es) [] p4) scope cl pm cv ctv) ⟨[], []⟩ = pure [] := by intros; rfl)
    (hx : (x == ("__debug__" : Str)) = false := by decide) (hy : (y == ("__debug__" : Str)) = false := by decide) (hy2 : (y == ("__classdict__" : Str)) = false := by decide) (ha1 : (a == ("__debug__" : Str)) = false := by decide) (ha2 : (a == ("__classdict__" : Str)) = false := by decide)
    (hse : ∀ env : Env, starEach (e :: es) env = (false, eval e env) :: starEach es env := by intro _; rfl) (hpl : ∀ env : Env, (backTo p4 (starEach es env)).any (·.1) = false := by intro _; rfl) :
    PV M W X (.Call (.Name x p) [.Lambda params (.Call (.Name y p3) (e :: es) [] p4) scope lpos] [] pos) (eErrV dn ok wd i gs fs) := by
  refine pv_lawerrG (n := n) (sl := fun g σ => ∃ kf, σ[i]? = some (some (.ref (M.F.fa kf))) ∧ gs kf = some g) c hE hk tb (lam_len c hk ha hn) (fun G H σ ε g s z => ?_) (fun E A outer s3 H3 f c1 cl => ⟨fun pins s σ H Q I ⟨g, ⟨kf, h1, h2⟩, h⟩ => ?_⟩) L hg hdef hbind hx ha1 ha2
  · simp only [selV] at z
    cases e1 : ε[i]? with
    | none => rw [e1] at z; cases z
    | some sl =>
      rw [e1] at z
      cases sl with
      | em => cases z
      | ow ds => cases z
      | pu d =>
        cases d with
        | fn kf =>
          obtain ⟨v, ev, r⟩ := s.pu e1
          simp only [Rp] at r
          subst r
          exact ⟨kf, ev, z⟩
        | _ => cases z
  · obtain ⟨fd, ps, Fy, kpy, by_⟩ := d kf g h2
    have px : Passes (L2N.CX X.prog X.w) (lamN X A outer s3 H3 E scope f c1) E := L2N.passes_call takesN fun _ _ _ _ z => z
    refine (pe_callL (X := lamN X A outer s3 H3 E scope f c1) (i := i) (f := M.F.fa kf) (dvs := []) Fy cl.hr hN hv kpy by_ .nil px (tOf_pa (ha A outer s3 H3 E f c1 cl)) hy hy2 (hse _) (hpl _)).run pins s σ H Q I ⟨h1, ?_⟩
    have e0 : (fun (vs : List V) (H2 : Hp) => SpP M.F n g (vs ++ []) H2 Q E) = fun vs H2 => SpP M.F n g vs H2 Q E := by
      funext vs H2
      rw [List.append_nil]
    show tOf M W0 (RpL M.F) fs σ H (fun (vs : List V) (H2 : Hp) => SpP M.F n g (vs ++ []) H2 Q E)
    rw [e0]
    exact h
end
end
end PL
/-! PL, part w: a call without arguments; defs as values; defs and the law where lambdas are made. -/
namespace PL
open PySem PySem.Spec PyProof.Rows L2 LamX
section
variable {M : Fr} {W : WX} {X : Cx} {k : Nat} {pos : Pos}
@[reducible, simp] def eCall0 (g : List D → Res D) : Ev → Res (D × Ev) := fun ε => (g []).bind fun d => .ok (d, ε)
theorem pv_call0 (c : CO M W k X) {x : Str} {k' : Nat} {g : List D → Res D} {p : Pos} (d : DOk M.F X.prog X.w X.K X.mg X.base x k' 0 (SpP M.F 0 g)) (hk : k' ≤ k) (hg : Gl X x := by rfl) (hdb : (x == ("__debug__" : Str)) = false := by decide) :
    PV M W X (.Call (.Name x p) [] [] pos) (eCall0 g) := by
  obtain ⟨f, fd, ps, Fy, gm, kp, b⟩ := d.ex
  refine ⟨fun σ H Q => SpP M.F 0 g [] H Q (WE W σ), ⟨fun pins s σ H Q I h => ?_⟩, fun σ G H ε s Q hp => ?_⟩
  · refine wpAny_Call_Name_kw (ld_glob I hg gm ?_ hdb)
    exact PySem.W.callWith_K0 I.kIn kp (run_fnS (us := []) (vs := []) (E := WE W) Fy (c.hr.mono hk) b (L2N.passAt c.tk σ) I .nil h)
  · refine ⟨[], G, rfl, s.hg, RpL.nil, ?_⟩
    simp only [eCall0] at hp
    cases e2 : g [] with
    | stuck => rw [e2] at hp; exact hp
    | err cc =>
      rw [e2] at hp
      exact fun G' H' gr hg' => hp σ G' H' ε (s.grow gr hg'.sub hg'.ntb hg'.tabs) (gr.step _)
    | ok dd =>
      rw [e2] at hp
      exact fun v G' H' gr hg' r => hp v G' H' (s.grow gr hg'.sub hg'.ntb hg'.tabs) (gr.step _) r
/-- a def of the text as a value: the j-th of the table -/
theorem glC_fn {F : Fx} {mg : Str → Option Value} {x : Str} {j : Nat} (h : mg x = some (.ref (F.fa j))) : GlC F mg x (.fn j) := ⟨.ref (F.fa j), _, h, rfl, fun _ => by simp only [Rp]⟩
/-- .. and what is known of it -/
theorem dv_of {F : Fx} {P : Program} {w : World} {K : PySem.W.Frag} {mg : Str → Option Value} {base : Heap} {x : Str} {k k2 n j : Nat} {g : List D → Res D} (d : DOk F P w K mg base x k n (SpP F n g)) (hk : k ≤ k2) (h : mg x = some (.ref (F.fa j))) :
    ∃ (fd : FuncData) (ps : List Str), FnOk P w K mg base (L2N.CX P w) k2 (F.fa j) fd ps (SpP F n g) ∧ PySem.W.keepIn K (.ref (F.fa j)) = true ∧ Binds K fd ps [] := by
  obtain ⟨f, fd, ps, Fy, gm, kp, b⟩ := d.ex
  rw [h] at gm
  cases gm
  exact ⟨fd, ps, Fy.mono hk, kp, b⟩
end
/-- a def that makes lambdas: its code object, and the table of these -/
def FnCT (F : Fx) (K : PySem.W.Frag) (mg : Str → Option Value) (base : Heap) (y x : Str) (st : Stmt) : Prop := ∃ f fd cc P, Fun K x x st f fd ∧ mg y = some (.ref f) ∧ fd.code = .ref cc ∧ TabB base mg cc P ∧
  (P, x ++ ".<locals>." ++ "<lambda>") ∈ F.T ∧ ∀ p ∈ F.T, p.1 = P → p.2 = x ++ ".<locals>." ++ "<lambda>"
section
variable {P : Program} {w : World} {K : PySem.W.Frag} {mg : Str → Option Value} {base : Heap} {F : Fx}
theorem okC {x qual : Str} {st : Stmt} {f : Addr} {fd : FuncData} {N ps : List Str} {k : Nat} {sp : Sp} {cv : Value} (Fu : Fun K x qual st f fd) (hc : fd.code = cv) (S : FnScope N ps (defScope st)) (len : ∀ vs H Q E, sp vs H Q E → vs.length = ps.length)
    (hb : ∀ (A : Around) (outer : List Env) (s : Shared) (H : Hp) (vs : List V) (Q : VK) (E : XK), Room k (A.deeper (envOfC qual (defScope st) s.heap.objs.size f cv)) → sp vs H Q E →
      ∃ t, PSs (cxOf (L2N.CX P w) P w K mg base N qual (defScope st) f cv A outer s H E) (defBody st) t ∧ t { nx := fun _ H' => Q .non H', rt := Q } (L2.start N vs) H) :
    FnOk P w K mg base (L2N.CX P w) (k + 1) f fd ps sp := by
  obtain ⟨_, _, _, _, _, _, cdv, _, _, rfl, lk, hcd⟩ := Fu.ex
  have e : cdv = cv := hc
  subst e
  exact fn_of lk hcd S len fun A outer s H vs Q E => hb A outer s H vs Q E
/-- a body that keeps to its mirror keeps the promise -/
theorem pure_run {M : Fr} {N : List Str} {n : Nat} {g : List D → Res D} {body : Ev → Out} {X : Cx} {sts : List Stmt} {vs : List V} {Q : VK} {E : XK} {H : Hp} (hM : M = ⟨F, none⟩) (hN : n ≤ N.length) (hb : PSs' M (WE0 E) X sts body) (hg : ∀ ds, ds.length = n → g ds = outRes (body (startE N.length ds)))
    (h : SpP F n g vs H Q E) : ∃ t, PSs X sts t ∧ t { nx := fun _ H' => Q .non H', rt := Q } (L2.start N vs) H := by
  subst hM
  obtain ⟨ds, G, h1, h2, h3, h4⟩ := h
  obtain ⟨t, et, qt⟩ := hb
  refine ⟨t, et, qt _ G H (startE N.length ds) (sr_start h2 h3 (by omega)) _ ?_⟩
  rw [hg ds h1] at h4
  have grow : ∀ {G' H' : Hp} {O' : Addr → Prop}, Step G H (Own (L2.start N vs) (startE N.length ds)) G' H' O' → Grow G H G' H' := fun {G' H' O'} st =>
    ⟨st.gg, fun q o h nt => st.hh q o h nt (own_start (F := F)), st.hs, fun q o h => (st.gn q o h).elim .inl fun z => z.elim .inr fun z => (own_start (F := F) z).elim⟩
  cases e : body (startE N.length ds) with
  | nx ε' => rw [e] at h4; exact fun σ' G' H' s' st' => h4 .non G' H' (grow st') s'.hg (rp_non.mpr rfl)
  | rt d ε' => rw [e] at h4; exact fun v σ' G' H' s' st' r => h4 v G' H' (grow st') s'.hg r
  | err c => rw [e] at h4; exact fun σ' G' H' ε' s' st' => h4 G' H' (grow st') s'.hg
  | bk ε' => rw [e] at h4; exact h4.elim
  | ct ε' => rw [e] at h4; exact h4.elim
  | stuck => rw [e] at h4; exact h4.elim
theorem dok_pureT (hF : F.K = K) {y x : Str} {st : Stmt} {N ps : List Str} {k n : Nat} {g : List D → Res D} {body : Ev → Out} (T : FnCT F K mg base y x st) (S : FnScope N ps (defScope st)) (hn : ps.length = n) (hN : n ≤ N.length)
    (hbi : ∀ {f : Addr} {fd : FuncData}, Fun K x x st f fd → Binds K fd ps [])
    (hb : ∀ (f : Addr) (cdv : Value) (A : Around) (outer : List Env) (s : Shared) (H : Hp) (E : XK), CO ⟨F, none⟩ (WE0 E) k (cxOf (L2N.CX P w) P w K mg base N x (defScope st) f cdv A outer s H E) → TabC ⟨F, none⟩ (cxOf (L2N.CX P w) P w K mg base N x (defScope st) f cdv A outer s H E) →
      PSs' ⟨F, none⟩ (WE0 E) (cxOf (L2N.CX P w) P w K mg base N x (defScope st) f cdv A outer s H E) (defBody st) body)
    (hg : ∀ ds, ds.length = n → g ds = outRes (body (startE N.length ds))) : DOk F P w K mg base y (k + 1) n (SpP F n g) := by
  obtain ⟨f, fd, cc, P0, Fu, gm, hc, TB, mT, uT⟩ := T
  exact ⟨⟨f, fd, ps, okC Fu hc S (fun vs H Q E ⟨ds, G, h1, h2, h3, _⟩ => by rw [← h3.length, h1, hn]) fun A outer s H vs Q E hr h => pure_run rfl hN (hb f (.ref cc) A outer s H E (co_fn hF S hr) ⟨⟨cc, P0, TB, rfl, mT, uT⟩⟩) hg h, gm, Fu.kp, hbi Fu⟩⟩
/-- the law, entered where the tables are empty -/
def spT (K : PySem.W.Frag) (T : List (Addr × Str)) : Sp := fun vs H Q _ => ∃ (a : Addr) (ns : List Int), vs = [.ref a] ∧ SqL K H a (ns.map V.int) ∧ ns.length ≤ 63 ∧ (∀ p ∈ T, H p.1 = some (.tbl #[])) ∧ ∀ H', Q (.bl true) H'
def noTbl (H : Hp) : Hp := fun q => match H q with
  | some (.tbl _) => none
  | o => o
theorem noTbl_some {H : Hp} {q : Addr} {o : HO} (h : noTbl H q = some o) : H q = some o ∧ ∀ ps, o ≠ .tbl ps := by
  unfold noTbl at h
  cases e : H q with
  | none => rw [e] at h; cases h
  | some u =>
    rw [e] at h
    cases u with
    | tbl ps => cases h
    | _ => cases h; exact ⟨rfl, fun ps z => by cases z⟩
theorem noTbl_of {H : Hp} {q : Addr} {o : HO} (h : H q = some o) (n : ∀ ps, o ≠ .tbl ps) : noTbl H q = some o := by
  unfold noTbl
  rw [h]
  cases o with
  | tbl ps => exact absurd rfl (n ps)
  | _ => rfl
theorem fn_lawT (hF : F.K = K) {x : Str} {st : Stmt} {f : Addr} {fd : FuncData} {N ps : List Str} {k : Nat} {body : Ev → Out} {cv : Value} (Fu : Fun K x x st f fd) (hc : fd.code = cv) (S : FnScope N ps (defScope st)) (hn : ps.length = 1) (hN : 1 ≤ N.length)
    (hb : ∀ (A : Around) (outer : List Env) (s : Shared) (H : Hp) (E : XK), CO ⟨F, none⟩ (WE0 E) k (cxOf (L2N.CX P w) P w K mg base N x (defScope st) f cv A outer s H E) → PSs' ⟨F, none⟩ (WE0 E) (cxOf (L2N.CX P w) P w K mg base N x (defScope st) f cv A outer s H E) (defBody st) body)
    (hg : ∀ ns : List Int, ns.length ≤ 63 → outRes (body (startE N.length [.scr ns])) = .ok (.bl true)) : FnOk P w K mg base (L2N.CX P w) (k + 1) f fd ps (spT K F.T) := by
  refine okC Fu hc S (fun vs H Q E ⟨a, ns, h, _⟩ => by rw [h, hn]; rfl) fun A outer s H vs Q E hr h => ?_
  obtain ⟨a, ns, rfl, hS, hl, hT, q⟩ := h
  obtain ⟨t, et, qt⟩ := hb A outer s H E (co_fn hF S hr)
  have h2 : HG F (noTbl H) H := ⟨fun q o h => (noTbl_some h).1, fun q ps h => (noTbl_some h).2 ps rfl, fun p hp => TabS.nil (hT p hp)⟩
  have h3 : RpL F (noTbl H) [.scr ns] [.ref a] := by
    refine RpL.cons ?_ RpL.nil
    simp only [Rp]
    refine ⟨a, rfl, ?_⟩
    rw [hF]
    rcases hS with (z | ⟨o, z⟩) | z
    · exact .inl (.inl (noTbl_of z fun ps y => by cases y))
    · exact .inl (.inr ⟨o, noTbl_of z fun ps y => by cases y⟩)
    · exact .inr z
  refine ⟨t, et, qt _ _ H (startE N.length [.scr ns]) (sr_start h2 h3 (by simpa using hN)) _ ?_⟩
  have h4 := hg ns hl
  cases e : body (startE N.length [.scr ns]) with
  | nx ε' => rw [e] at h4; cases h4
  | rt d ε' =>
    rw [e] at h4
    simp only [outRes, Res.ok.injEq] at h4
    subst h4
    intro v σ' G' H' s' st' r
    rw [rp_bl] at r
    subst r
    exact q H'
  | err c => rw [e] at h4; cases h4
  | bk ε' => rw [e] at h4; cases h4
  | ct ε' => rw [e] at h4; cases h4
  | stuck => rw [e] at h4; cases h4
end
end PL
/-! PL, part x: zip of a list and a tuple; a call without arguments; defs as values. -/
namespace PL
open PySem PySem.Spec PyProof.Rows L2
/-- a kind of source: its iterator, the sequence -/
structure SrcK (prog : Program) (w : World) (It : Heap → Addr → Addr → Nat → Prop) (Sq : Heap → Addr → Array Value → Prop) : Prop where
  item : ∀ (A : Around) (E : Value → Shared → Prop) (s : Shared) (it l : Addr) (i : Nat) (xs : Array Value) (x : Value) (Q : Value → Shared → Prop), It s.heap it l i → Sq s.heap l xs → xs[i]? = some x →
    (∀ g, It g it l (i + 1) → Heap.SameBut it s.heap g → Q x { s with heap := g }) → wpAny (model prog w) A (Builtin.SmallTypes.nextOf (.ref it)) Q E s
  fin : ∀ (A : Around) (E : Value → Shared → Prop) (s : Shared) (it l : Addr) (i : Nat) (xs : Array Value) (Q : Value → Shared → Prop), A.handled = none → It s.heap it l i → Sq s.heap l xs → xs[i]? = none →
    (∀ g e, Heap.ExtBut it s.heap g → (∃ o, g.get? e = some o ∧ o.cls = .type "StopIteration") → E (.ref e) { s with heap := g }) → wpAny (model prog w) A (Builtin.SmallTypes.nextOf (.ref it)) Q E s
  mv : ∀ (h g : Heap) (it l : Addr) (i : Nat), It h it l i → (∀ o, h.get? it = some o → g.get? it = some o) → It g it l i
  ob : ∀ (h : Heap) (it l : Addr) (i : Nat), It h it l i → ∃ o, h.get? it = some o ∧ ∀ v, o.data ≠ .cell v
  mvS : ∀ (h g : Heap) (l : Addr) (xs : Array Value), Sq h l xs → (∀ o, h.get? l = some o → g.get? l = some o) → Sq g l xs
section
variable {prog : Program} {w : World}
theorem srcL : SrcK prog w Heap.IsListIter Heap.IsList where
  item := fun A E s it l i xs x Q a b c d => wpAny_nextOf_list_item a b c d
  fin := fun A E s it l i xs Q hh a b c d => wpAny_nextOf_list_end hh a b c d
  mv := fun h g it l i a k => a.at fun o e => k o e
  ob := fun h it l i ⟨o, e, _, d⟩ => ⟨o, e, fun v z => by rw [d] at z; cases z⟩
  mvS := fun h g l xs ⟨o, e, r⟩ k => ⟨o, k o e, r⟩
theorem srcT : SrcK prog w Heap.IsTupleIter Heap.IsTuple where
  item := fun A E s it l i xs x Q a b c d => wpAny_nextOf_tuple_item a b c d
  fin := fun A E s it l i xs Q hh a b c d => wpAny_nextOf_tuple_end hh a b c d
  mv := fun h g it l i a k => a.at fun o e => k o e
  ob := fun h it l i ⟨o, e, _, d⟩ => ⟨o, e, fun v z => by rw [d] at z; cases z⟩
  mvS := fun h g l xs ⟨o, e, r⟩ k => ⟨o, k o e, r⟩
end
section
variable {prog : Program} {w : World} {A : Around} {E : Value → Shared → Prop} {s : Shared} {I1 I2 : Heap → Addr → Addr → Nat → Prop} {S1 S2 : Heap → Addr → Array Value → Prop}
theorem zipG_item (K1 : SrcK prog w I1 S1) (K2 : SrcK prog w I2 S2) {z TI TO a b l m : Addr} {i j : Nat} {xs ys : Array Value} {x y u v : Value} {Q : Value → Shared → Prop} (Z : ZipApart z TI TO a b l m)
    (hz : IsZip s.heap z TI TO .none) (hI : IsPair s.heap TI (.ref a) (.ref b)) (hO : IsPair s.heap TO u v) (ha : I1 s.heap a l i) (hb : I2 s.heap b m j) (hl : S1 s.heap l xs) (hm : S2 s.heap m ys) (hx : xs[i]? = some x) (hy : ys[j]? = some y)
    (hQ : ∀ g, IsZip g z TI TO (rawInt s.heap.objs.size) → IsPair g TO x y → I1 g a l (i + 1) → I2 g b m (j + 1) → IsPair g s.heap.objs.size x y → g.objs.size = s.heap.objs.size + 1 →
      (∀ c o, c ≠ z → c ≠ TO → c ≠ a → c ≠ b → s.heap.get? c = some o → g.get? c = some o) → Q (.ref s.heap.objs.size) { s with heap := g }) :
    wpAny (model prog w) A (Builtin.«zip.__next__» ⟨[.ref z], []⟩) (fun fin s2 => ∃ r, fin = .done (.ret r) ∧ Q r s2) E s := by
  show wpAny _ _ (do let r ← field (.ref z) 2; _) _ _ _
  refine wpAny_bind (wpAny_field hz rfl (x := .bool false) rfl ?_)
  show wpAny _ _ (do let r ← field (.ref z) 3; _) _ _ _
  refine wpAny_bind (wpAny_field hz rfl (x := .ref TI) rfl (wpAny_bind (wpAny_seqItems hI rfl ?_)))
  show wpAny _ _ (do let r ← Builtin.SmallTypes.ownedTupleIsFree (.ref z); _) _ _ _
  refine wpAny_bind ?_
  unfold Builtin.SmallTypes.ownedTupleIsFree
  refine wpAny_bind (wpAny_field hz rfl (x := .none) rfl (wpAny_pure ?_))
  simp only [if_true]
  refine wpAny_bind (wpAny_rule (wpAny_bind (wpAny_field hz rfl (x := .ref TO) rfl (wpAny_bind (wpAny_setField_rec hz (by simp) fun g1 z1 k1 => ?_)))))
  replace z1 : IsZip g1 z TI TO .ellipsis := z1
  refine wpAny_bind ?_
  simp only [List.zipIdx_cons, List.zipIdx_nil, List.forIn_cons, List.forIn_nil]
  refine wpAny_bind (wpAny_bind (wpAny_onRaise ?_))
  show wpAny _ _ (do let r ← Builtin.SmallTypes.nextOf (.ref a); _) _ _ _
  have e1 : ∀ c o, c ≠ z → s.heap.get? c = some o → g1.get? c = some o := fun c o n e => k1.extBut c o n e
  refine wpAny_bind (K1.item _ _ _ _ _ _ _ _ _ (K1.mv _ _ _ _ _ ha fun o => e1 _ o Z.i1z) (K1.mvS _ _ _ _ hl fun o => e1 _ o Z.l1z) hx fun g2 a2 k2 => wpAny_pure ?_)
  have e2 : ∀ c o, c ≠ z → c ≠ a → s.heap.get? c = some o → g2.get? c = some o := fun c o n n2 e => k2.extBut c o n2 (e1 c o n e)
  have O2 : IsPair g2 TO u v := e2 _ _ Z.TOz Z.TOi1 hO
  refine wpAny_bind (wpAny_seqItems O2 rfl (wpAny_bind (wpAny_updateSeq_pair O2 fun g3 O3 k3 => ?_)))
  replace O3 : IsPair g3 TO x v := O3
  refine wpAny_bind (wpAny_letGo (wpAny_pure ?_))
  have e3 : ∀ c o, c ≠ z → c ≠ a → c ≠ TO → s.heap.get? c = some o → g3.get? c = some o := fun c o n n2 n3 e => k3.extBut c o n3 (e2 c o n n2 e)
  refine wpAny_bind (wpAny_bind (wpAny_onRaise ?_))
  show wpAny _ _ (do let r ← Builtin.SmallTypes.nextOf (.ref b); _) _ _ _
  refine wpAny_bind (K2.item _ _ _ _ _ _ _ _ _ (K2.mv _ _ _ _ _ hb fun o => e3 _ o Z.i2z Z.i12.symm Z.TOi2.symm) (K2.mvS _ _ _ _ hm fun o => e3 _ o Z.l2z Z.l2i1 Z.l2TO) hy fun g4 b4 k4 => wpAny_pure ?_)
  have O4 : IsPair g4 TO x v := k4.extBut _ _ Z.TOi2 O3
  refine wpAny_bind (wpAny_seqItems O4 rfl (wpAny_bind (wpAny_updateSeq_pair O4 fun g5 O5 k5 => ?_)))
  replace O5 : IsPair g5 TO x y := O5
  refine wpAny_bind (wpAny_letGo (wpAny_pure (wpAny_pure (wpAny_bind (wpAny_seqItems O5 rfl (wpAny_bind (wpAny_newTuple ?_)))))))
  have e5 : ∀ c o, c ≠ z → c ≠ TO → c ≠ a → c ≠ b → s.heap.get? c = some o → g5.get? c = some o := fun c o n n2 n3 n4 e => k5.extBut c o n2 (k4.extBut c o n4 (e3 c o n n3 n2 e))
  have sz : g5.objs.size = s.heap.objs.size := by rw [k5.1, k4.1, k3.1, k2.1, k1.1]
  have z5 : IsZip g5 z TI TO .ellipsis := k5.extBut _ _ Z.TOz.symm (k4.extBut _ _ Z.i2z.symm (k3.extBut _ _ Z.TOz.symm (k2.extBut _ _ Z.i1z.symm z1)))
  have a5 : I1 g5 a l (i + 1) := K1.mv _ _ _ _ _ a2 fun o e => k5.extBut _ o Z.TOi1.symm (k4.extBut _ o Z.i12 (k3.extBut _ o Z.TOi1.symm e))
  have b5 : I2 g5 b m (j + 1) := K2.mv _ _ _ _ _ b4 fun o e => k5.extBut _ o Z.TOi2.symm e
  have zl : z < g5.objs.size := Heap.lt_size z5
  show wpAny _ _ (do let r ← Builtin.SmallTypes.ownedTupleHandOut (.ref z) (.ref g5.objs.size); _) _ _ _
  refine wpAny_bind ?_
  unfold Builtin.SmallTypes.ownedTupleHandOut
  have z6 : IsZip (g5.push { cls := .type "tuple", data := .seq #[x, y] }) z TI TO .ellipsis := Heap.get?_push_of_some _ z5
  refine wpAny_bind (wpAny_setField_rec z6 (by simp) fun g7 z7 k7 => ?_)
  replace z7 : IsZip g7 z TI TO (rawInt g5.objs.size) := z7
  refine wpAny_setField_rec z7 (by simp) fun g8 z8 k8 => ?_
  replace z8 : IsZip g8 z TI TO (rawInt g5.objs.size) := z8
  have e8 : ∀ c o, c ≠ z → (g5.push { cls := .type "tuple", data := .seq #[x, y] }).get? c = some o → g8.get? c = some o := fun c o n e => k8.extBut _ _ n (k7.extBut _ _ n e)
  have T8 : IsPair g8 g5.objs.size x y := e8 _ _ (Nat.ne_of_gt zl) (Heap.get?_push_size _ rfl)
  have s8 : g8.objs.size = g5.objs.size + 1 := by rw [k8.1, k7.1, Heap.size_push]
  have up : ∀ c o, c ≠ z → g5.get? c = some o → g8.get? c = some o := fun c o n e => e8 c o n (Heap.get?_push_of_some _ e)
  rw [sz] at z8 T8 s8
  refine wpAny_pure ⟨_, rfl, ?_⟩
  show Q (.ref g5.objs.size) _
  rw [sz]
  exact hQ g8 z8 (up _ _ Z.TOz O5) (K1.mv _ _ _ _ _ a5 fun o e => up _ o Z.i1z e) (K2.mv _ _ _ _ _ b5 fun o e => up _ o Z.i2z e) T8 s8 fun c o n n2 n3 n4 e => up c o n (e5 c o n n2 n3 n4 e)
theorem zipG_end (hh : A.handled = none) (K1 : SrcK prog w I1 S1) (K2 : SrcK prog w I2 S2) {z TI TO a b l m : Addr} {i j : Nat} {xs ys : Array Value} {u v : Value} {Q : Fin → Shared → Prop} (Z : ZipApart z TI TO a b l m)
    (hz : IsZip s.heap z TI TO .none) (hI : IsPair s.heap TI (.ref a) (.ref b)) (hO : IsPair s.heap TO u v) (ha : I1 s.heap a l i) (hb : I2 s.heap b m j) (hl : S1 s.heap l xs) (hm : S2 s.heap m ys) (hend : xs[i]? = none ∨ ys[j]? = none)
    (hE : ∀ g e, (∀ c o, c ≠ z → c ≠ TO → c ≠ a → c ≠ b → s.heap.get? c = some o → g.get? c = some o) → (∃ o, g.get? e = some o ∧ o.cls = .type "StopIteration") → E (.ref e) { s with heap := g }) :
    wpAny (model prog w) A (Builtin.«zip.__next__» ⟨[.ref z], []⟩) Q E s := by
  show wpAny _ _ (do let r ← field (.ref z) 2; _) _ _ _
  refine wpAny_bind (wpAny_field hz rfl (x := .bool false) rfl ?_)
  show wpAny _ _ (do let r ← field (.ref z) 3; _) _ _ _
  refine wpAny_bind (wpAny_field hz rfl (x := .ref TI) rfl (wpAny_bind (wpAny_seqItems hI rfl ?_)))
  show wpAny _ _ (do let r ← Builtin.SmallTypes.ownedTupleIsFree (.ref z); _) _ _ _
  refine wpAny_bind ?_
  unfold Builtin.SmallTypes.ownedTupleIsFree
  refine wpAny_bind (wpAny_field hz rfl (x := .none) rfl (wpAny_pure ?_))
  simp only [if_true]
  refine wpAny_bind (wpAny_rule (wpAny_bind (wpAny_field hz rfl (x := .ref TO) rfl (wpAny_bind (wpAny_setField_rec hz (by simp) fun g1 z1 k1 => ?_)))))
  replace z1 : IsZip g1 z TI TO .ellipsis := z1
  refine wpAny_bind ?_
  simp only [List.zipIdx_cons, List.zipIdx_nil, List.forIn_cons, List.forIn_nil]
  refine wpAny_bind (wpAny_bind (wpAny_onRaise ?_))
  show wpAny _ _ (do let r ← Builtin.SmallTypes.nextOf (.ref a); _) _ _ _
  have e1 : ∀ c o, c ≠ z → s.heap.get? c = some o → g1.get? c = some o := fun c o n e => k1.extBut c o n e
  have ha1 := K1.mv _ _ _ _ _ ha fun o => e1 _ o Z.i1z
  have hl1 := K1.mvS _ _ _ _ hl fun o => e1 _ o Z.l1z
  cases hx : xs[i]? with
  | none =>
    refine wpAny_bind (K1.fin _ _ _ _ _ _ _ _ hh ha1 hl1 hx fun g2 e k2 ⟨oe, hoe, hce⟩ => ?_)
    have z2 : IsZip g2 z TI TO .ellipsis := k2 _ _ Z.i1z.symm z1
    have nez : e ≠ z := fun q => by subst q; rw [z2] at hoe; cases hoe; simp at hce
    exact wpAny_setField_rec z2 (by simp) fun g3 _ k3 => hE g3 e (fun c o n _ n3 _ q => k3.extBut _ _ n (k2 _ _ n3 (e1 c o n q))) ⟨oe, k3.extBut _ _ nez hoe, hce⟩
  | some x =>
    have hy : ys[j]? = none := hend.resolve_left fun q => by rw [hx] at q; cases q
    refine wpAny_bind (K1.item _ _ _ _ _ _ _ _ _ ha1 hl1 hx fun g2 a2 k2 => wpAny_pure ?_)
    have e2 : ∀ c o, c ≠ z → c ≠ a → s.heap.get? c = some o → g2.get? c = some o := fun c o n n2 e => k2.extBut c o n2 (e1 c o n e)
    have O2 : IsPair g2 TO u v := e2 _ _ Z.TOz Z.TOi1 hO
    refine wpAny_bind (wpAny_seqItems O2 rfl (wpAny_bind (wpAny_updateSeq_pair O2 fun g3 O3 k3 => wpAny_bind (wpAny_letGo (wpAny_pure ?_)))))
    have e3 : ∀ c o, c ≠ z → c ≠ a → c ≠ TO → s.heap.get? c = some o → g3.get? c = some o := fun c o n n2 n3 e => k3.extBut c o n3 (e2 c o n n2 e)
    refine wpAny_bind (wpAny_bind (wpAny_onRaise ?_))
    show wpAny _ _ (do let r ← Builtin.SmallTypes.nextOf (.ref b); _) _ _ _
    refine wpAny_bind (K2.fin _ _ _ _ _ _ _ _ hh (K2.mv _ _ _ _ _ hb fun o => e3 _ o Z.i2z Z.i12.symm Z.TOi2.symm) (K2.mvS _ _ _ _ hm fun o => e3 _ o Z.l2z Z.l2i1 Z.l2TO) hy fun g4 e k4 ⟨oe, hoe, hce⟩ => ?_)
    have z4 : IsZip g4 z TI TO .ellipsis := k4 _ _ Z.i2z.symm (k3.extBut _ _ Z.TOz.symm (k2.extBut _ _ Z.i1z.symm z1))
    have nez : e ≠ z := fun q => by subst q; rw [z4] at hoe; cases hoe; simp at hce
    exact wpAny_setField_rec z4 (by simp) fun g5 _ k5 => hE g5 e (fun c o n n2 n3 n4 q => k5.extBut _ _ n (k4 _ _ n4 (e3 c o n n3 n2 q))) ⟨oe, k5.extBut _ _ nez hoe, hce⟩
theorem nextZ_item (K1 : SrcK prog w I1 S1) (K2 : SrcK prog w I2 S2) {z TI TO a b l m : Addr} {i j : Nat} {xs ys : Array Value} {x y u v : Value} {Q : Option Value → Shared → Prop} (Z : ZipApart z TI TO a b l m)
    (hz : IsZip s.heap z TI TO .none) (hI : IsPair s.heap TI (.ref a) (.ref b)) (hO : IsPair s.heap TO u v) (ha : I1 s.heap a l i) (hb : I2 s.heap b m j) (hl : S1 s.heap l xs) (hm : S2 s.heap m ys) (hx : xs[i]? = some x) (hy : ys[j]? = some y)
    (hQ : ∀ g, IsZip g z TI TO (rawInt s.heap.objs.size) → IsPair g TO x y → I1 g a l (i + 1) → I2 g b m (j + 1) → IsPair g s.heap.objs.size x y → g.objs.size = s.heap.objs.size + 1 →
      (∀ c o, c ≠ z → c ≠ TO → c ≠ a → c ≠ b → s.heap.get? c = some o → g.get? c = some o) → Q (some (.ref s.heap.objs.size)) { s with heap := g }) : wpAny (model prog w) A (pyNext (.ref z)) Q E s := by
  have ty : s.TypeIs (.ref z) "zip" := ⟨_, hz, rfl⟩
  unfold pyNext
  refine wpAny_bind (wpAny_attempt (wpAny_callSpecial?_slot (name := Str.ofString "__next__") ty F.slot_zip_next (wpAny_call_entry F.slot_zip_next ty F.entry_zip_next ?_ (F.args_zip_next_1 _))))
  exact zipG_item K1 K2 Z hz hI hO ha hb hl hm hx hy fun g b1 b2 b3 b4 b5 b6 b7 => wpAny_pure (hQ g b1 b2 b3 b4 b5 b6 b7)
theorem nextZ_end (hh : A.handled = none) (K1 : SrcK prog w I1 S1) (K2 : SrcK prog w I2 S2) {z TI TO a b l m : Addr} {i j : Nat} {xs ys : Array Value} {u v : Value} {Q : Option Value → Shared → Prop} (Z : ZipApart z TI TO a b l m)
    (hz : IsZip s.heap z TI TO .none) (hI : IsPair s.heap TI (.ref a) (.ref b)) (hO : IsPair s.heap TO u v) (ha : I1 s.heap a l i) (hb : I2 s.heap b m j) (hl : S1 s.heap l xs) (hm : S2 s.heap m ys) (hend : xs[i]? = none ∨ ys[j]? = none)
    (hQ : ∀ g, (∀ c o, c ≠ z → c ≠ TO → c ≠ a → c ≠ b → s.heap.get? c = some o → g.get? c = some o) → Q none { s with heap := g }) : wpAny (model prog w) A (pyNext (.ref z)) Q E s := by
  have ty : s.TypeIs (.ref z) "zip" := ⟨_, hz, rfl⟩
  unfold pyNext
  refine wpAny_bind (wpAny_attempt (wpAny_callSpecial?_slot (name := Str.ofString "__next__") ty F.slot_zip_next (wpAny_call_entry F.slot_zip_next ty F.entry_zip_next ?_ (F.args_zip_next_1 _))))
  refine zipG_end (A := A.in1) hh K1 K2 Z hz hI hO ha hb hl hm hend fun g e hk ⟨o, ho, hc⟩ => ?_
  exact wpAny_bind (wpAny_isInstance (T := "StopIteration") (b := true) ⟨o, ho, hc⟩ isSubtype_stop (wpAny_pure (hQ _ hk)))
end

abbrev zLT1 (h : Heap) (l : Addr) : Heap := h.push { cls := .type "list_iterator", data := .fields #[.ref l, .int 0 0] }
abbrev zLT2 (h : Heap) (l m : Addr) : Heap := (zLT1 h l).push { cls := .type "tuple_iterator", data := .fields #[.ref m, .int 0 0] }
abbrev zLT3 (h : Heap) (l m : Addr) : Heap := (zLT2 h l m).push { cls := .type "tuple", data := .seq #[.ref h.objs.size, .ref (zLT1 h l).objs.size] }
abbrev zLT4 (h : Heap) (l m : Addr) : Heap := (zLT3 h l m).push { cls := .type "tuple", data := .seq #[.none, .none] }
abbrev zLT5 (h : Heap) (l m : Addr) : Heap := (zLT4 h l m).push { cls := .type "zip", data := .fields #[.none, .bool false, .bool false, .ref (zLT2 h l m).objs.size, .ref (zLT3 h l m).objs.size] }
theorem zLT_new (l m : Addr) (xs ys : Array Value) : Meets (Builtin.«zip.__new__» ⟨[.type "zip", .ref l, .ref m], []⟩) (fun _ R s => s.heap.IsList l xs ∧ s.heap.IsTuple m ys ∧ R (.ok (.ret (.ref (zLT4 s.heap l m).objs.size))) { s with heap := zLT5 s.heap l m }) :=
  .of_wp fun prog w A R s h => by
    obtain ⟨hp, gs, ds, tk, os⟩ := s
    obtain ⟨h1, h2, h⟩ := h
    have hsub := sub_zip
    have q1 : Heap.IsList (Shared.heap ⟨hp, gs, ds, tk, os⟩) l xs := h1
    have q2 : Heap.IsTuple (Shared.heap ⟨hp.push { cls := .type "list_iterator", data := .fields #[.ref l, .int 0 0] }, gs, ds, tk, os⟩) m ys := Heap.IsTuple.push h2 _
    wp_walk using wpAny_pyIter_list q1, wpAny_pyIter_tuple q2
    exact ⟨_, rfl, h⟩
theorem zLT_call {prog : Program} {w : World} {A : Around} {E : Value → Shared → Prop} {s : Shared} {l m : Addr} {xs ys : Array Value} {Q : Value → Shared → Prop} (hl : s.heap.IsList l xs) (hm : s.heap.IsTuple m ys)
    (h : ∀ g, IsZip g (s.heap.objs.size + 4) (s.heap.objs.size + 2) (s.heap.objs.size + 3) .none → IsPair g (s.heap.objs.size + 2) (.ref s.heap.objs.size) (.ref (s.heap.objs.size + 1)) → IsPair g (s.heap.objs.size + 3) .none .none →
      g.IsListIter s.heap.objs.size l 0 → g.IsTupleIter (s.heap.objs.size + 1) m 0 → (∀ c o, s.heap.get? c = some o → g.get? c = some o) → Q (.ref (s.heap.objs.size + 4)) { s with heap := g }) : wpAny (model prog w) A (call (.type "zip") [.ref l, .ref m]) Q E s := by
  refine callType_new F.called_zip (by decide) (F.typeCall_zip_2 _ _) (F.newCall_zip_2 _ _) (fun obj => F.args_object_init_3 obj _ _) F.entry_zip_new (zLT_new l m xs ys) ⟨hl, hm, ?_⟩
  have n1 : (zLT1 s.heap l).objs.size = s.heap.objs.size + 1 := Heap.size_push ..
  have n2 : (zLT2 s.heap l m).objs.size = s.heap.objs.size + 2 := by rw [Heap.size_push, n1]
  have n3 : (zLT3 s.heap l m).objs.size = s.heap.objs.size + 3 := by rw [Heap.size_push, n2]
  have n4 : (zLT4 s.heap l m).objs.size = s.heap.objs.size + 4 := by rw [Heap.size_push, n3]
  have o5 : (zLT5 s.heap l m).get? (zLT4 s.heap l m).objs.size = some _ := Heap.get?_push_size _ rfl
  have o4 : (zLT5 s.heap l m).get? (zLT3 s.heap l m).objs.size = some _ := Heap.get?_push_of_some _ (Heap.get?_push_size _ rfl)
  have o3 : (zLT5 s.heap l m).get? (zLT2 s.heap l m).objs.size = some _ := Heap.get?_push_of_some _ (Heap.get?_push_of_some _ (Heap.get?_push_size _ rfl))
  have o2 : (zLT5 s.heap l m).get? (zLT1 s.heap l).objs.size = some _ := Heap.get?_push_of_some _ (Heap.get?_push_of_some _ (Heap.get?_push_of_some _ (Heap.get?_push_size _ rfl)))
  have o1 : (zLT5 s.heap l m).get? s.heap.objs.size = some _ := Heap.get?_push_of_some _ (Heap.get?_push_of_some _ (Heap.get?_push_of_some _ (Heap.get?_push_of_some _ (Heap.get?_push_size _ rfl))))
  have up : ∀ c o, s.heap.get? c = some o → (zLT5 s.heap l m).get? c = some o := fun c o e => Heap.get?_push_of_some _ (Heap.get?_push_of_some _ (Heap.get?_push_of_some _ (Heap.get?_push_of_some _ (Heap.get?_push_of_some _ e))))
  show _ ∧ _
  rw [n2, n3, n4] at o5
  rw [n1, n2] at o3
  rw [n3] at o4
  rw [n1] at o2
  rw [n4]
  exact ⟨⟨_, o5, rfl⟩, h _ o5 o3 o4 ⟨_, o1, rfl, rfl⟩ ⟨_, o2, rfl, rfl⟩ up⟩

abbrev zTL1 (h : Heap) (l : Addr) : Heap := h.push { cls := .type "tuple_iterator", data := .fields #[.ref l, .int 0 0] }
abbrev zTL2 (h : Heap) (l m : Addr) : Heap := (zTL1 h l).push { cls := .type "list_iterator", data := .fields #[.ref m, .int 0 0] }
abbrev zTL3 (h : Heap) (l m : Addr) : Heap := (zTL2 h l m).push { cls := .type "tuple", data := .seq #[.ref h.objs.size, .ref (zTL1 h l).objs.size] }
abbrev zTL4 (h : Heap) (l m : Addr) : Heap := (zTL3 h l m).push { cls := .type "tuple", data := .seq #[.none, .none] }
abbrev zTL5 (h : Heap) (l m : Addr) : Heap := (zTL4 h l m).push { cls := .type "zip", data := .fields #[.none, .bool false, .bool false, .ref (zTL2 h l m).objs.size, .ref (zTL3 h l m).objs.size] }
theorem zTL_new (l m : Addr) (xs ys : Array Value) : Meets (Builtin.«zip.__new__» ⟨[.type "zip", .ref l, .ref m], []⟩) (fun _ R s => s.heap.IsTuple l xs ∧ s.heap.IsList m ys ∧ R (.ok (.ret (.ref (zTL4 s.heap l m).objs.size))) { s with heap := zTL5 s.heap l m }) :=
  .of_wp fun prog w A R s h => by
    obtain ⟨hp, gs, ds, tk, os⟩ := s
    obtain ⟨h1, h2, h⟩ := h
    have hsub := sub_zip
    have q1 : Heap.IsTuple (Shared.heap ⟨hp, gs, ds, tk, os⟩) l xs := h1
    have q2 : Heap.IsList (Shared.heap ⟨hp.push { cls := .type "tuple_iterator", data := .fields #[.ref l, .int 0 0] }, gs, ds, tk, os⟩) m ys := Heap.IsList.push h2 _
    wp_walk using wpAny_pyIter_tuple q1, wpAny_pyIter_list q2
    exact ⟨_, rfl, h⟩
theorem zTL_call {prog : Program} {w : World} {A : Around} {E : Value → Shared → Prop} {s : Shared} {l m : Addr} {xs ys : Array Value} {Q : Value → Shared → Prop} (hl : s.heap.IsTuple l xs) (hm : s.heap.IsList m ys)
    (h : ∀ g, IsZip g (s.heap.objs.size + 4) (s.heap.objs.size + 2) (s.heap.objs.size + 3) .none → IsPair g (s.heap.objs.size + 2) (.ref s.heap.objs.size) (.ref (s.heap.objs.size + 1)) → IsPair g (s.heap.objs.size + 3) .none .none →
      g.IsTupleIter s.heap.objs.size l 0 → g.IsListIter (s.heap.objs.size + 1) m 0 → (∀ c o, s.heap.get? c = some o → g.get? c = some o) → Q (.ref (s.heap.objs.size + 4)) { s with heap := g }) : wpAny (model prog w) A (call (.type "zip") [.ref l, .ref m]) Q E s := by
  refine callType_new F.called_zip (by decide) (F.typeCall_zip_2 _ _) (F.newCall_zip_2 _ _) (fun obj => F.args_object_init_3 obj _ _) F.entry_zip_new (zTL_new l m xs ys) ⟨hl, hm, ?_⟩
  have n1 : (zTL1 s.heap l).objs.size = s.heap.objs.size + 1 := Heap.size_push ..
  have n2 : (zTL2 s.heap l m).objs.size = s.heap.objs.size + 2 := by rw [Heap.size_push, n1]
  have n3 : (zTL3 s.heap l m).objs.size = s.heap.objs.size + 3 := by rw [Heap.size_push, n2]
  have n4 : (zTL4 s.heap l m).objs.size = s.heap.objs.size + 4 := by rw [Heap.size_push, n3]
  have o5 : (zTL5 s.heap l m).get? (zTL4 s.heap l m).objs.size = some _ := Heap.get?_push_size _ rfl
  have o4 : (zTL5 s.heap l m).get? (zTL3 s.heap l m).objs.size = some _ := Heap.get?_push_of_some _ (Heap.get?_push_size _ rfl)
  have o3 : (zTL5 s.heap l m).get? (zTL2 s.heap l m).objs.size = some _ := Heap.get?_push_of_some _ (Heap.get?_push_of_some _ (Heap.get?_push_size _ rfl))
  have o2 : (zTL5 s.heap l m).get? (zTL1 s.heap l).objs.size = some _ := Heap.get?_push_of_some _ (Heap.get?_push_of_some _ (Heap.get?_push_of_some _ (Heap.get?_push_size _ rfl)))
  have o1 : (zTL5 s.heap l m).get? s.heap.objs.size = some _ := Heap.get?_push_of_some _ (Heap.get?_push_of_some _ (Heap.get?_push_of_some _ (Heap.get?_push_of_some _ (Heap.get?_push_size _ rfl))))
  have up : ∀ c o, s.heap.get? c = some o → (zTL5 s.heap l m).get? c = some o := fun c o e => Heap.get?_push_of_some _ (Heap.get?_push_of_some _ (Heap.get?_push_of_some _ (Heap.get?_push_of_some _ (Heap.get?_push_of_some _ e))))
  show _ ∧ _
  rw [n2, n3, n4] at o5
  rw [n1, n2] at o3
  rw [n3] at o4
  rw [n1] at o2
  rw [n4]
  exact ⟨⟨_, o5, rfl⟩, h _ o5 o3 o4 ⟨_, o1, rfl, rfl⟩ ⟨_, o2, rfl, rfl⟩ up⟩

/-- what the abstract heap tells of a kind -/
structure SeqK (K : PySem.W.Frag) (Sa : Hp → Addr → List V → Prop) (S : Heap → Addr → Array Value → Prop) : Prop where
  rd : ∀ (X : Cx) (pins : List (Addr × Obj)) (σ : St) (H : Hp) (s : Shared) (a : Addr) (xs : List V), X.K = K → Inv X pins σ H s → Sa H a xs → ∃ its : List Value, Vals xs its ∧ S s.heap a its.toArray ∧ a < s.heap.objs.size
  inj : ∀ (X : Cx) (pins : List (Addr × Obj)) (σ : St) (H : Hp) (s : Shared) (a : Addr) (xs ys : List V), X.K = K → Inv X pins σ H s → Sa H a xs → Sa H a ys → xs = ys
theorem seqKL {K : PySem.W.Frag} : SeqK K (SqL K) Heap.IsList where
  rd := fun X pins σ H s a xs hK I h => by
    subst hK
    obtain ⟨its, rv, p, _⟩ := I.list h
    exact ⟨its, rv, p.isList, p.lt⟩
  inj := fun X pins σ H s a xs ys hK I h k => by subst hK; exact I.list_inj h k
theorem seqKT {K : PySem.W.Frag} : SeqK K (SqT K) Heap.IsTuple where
  rd := fun X pins σ H s a xs hK I h => by
    subst hK
    obtain ⟨its, rv, p, _⟩ := I.tuple h
    obtain ⟨o, e, _⟩ := id p
    exact ⟨its, rv, p, Heap.lt_size e⟩
  inj := fun X pins σ H s a xs ys hK I h k => by subst hK; exact I.tuple_inj h k
def ItG (Sa Sb : Hp → Addr → List V → Prop) (a b : Addr) : It :=
  ⟨fun i H => ∃ (xs ys : List V) (x y : V), Sa H a xs ∧ Sb H b ys ∧ xs[i]? = some x ∧ ys[i]? = some y,
    fun i H v H2 => ∃ T x y, v = .ref T ∧ H T = none ∧ H2 = upd H T (.tup [x, y]) ∧ (∀ xs, Sa H a xs → xs[i]? = some x) ∧ ∀ ys, Sb H b ys → ys[i]? = some y,
    fun i H => ∃ xs ys : List V, Sa H a xs ∧ Sb H b ys ∧ (xs.length ≤ i ∨ ys.length ≤ i)⟩
theorem turnG {P : Program} {w : World} {K : PySem.W.Frag} {Sa Sb : Hp → Addr → List V → Prop} {I1 I2 : Heap → Addr → Addr → Nat → Prop} {S1 S2 : Heap → Addr → Array Value → Prop} (K1 : SrcK P w I1 S1) (K2 : SrcK P w I2 S2) (A1 : SeqK K Sa S1) (A2 : SeqK K Sb S2)
    {es : List Expr} {kk : Nat} {tp : Pos} {a b z TI TO i1 i2 : Addr} (Z : ZipApart z TI TO i1 i2 a b) :
    Turn P w K (.Tuple es kk tp) (ItG Sa Sb a b) [z, TI, TO, i1, i2] z (fun i h => IsZip h z TI TO .none ∧ IsPair h TI (.ref i1) (.ref i2) ∧ (∃ x y, IsPair h TO x y) ∧ I1 h i1 a i ∧ I2 h i2 b i) where
  mem := List.mem_cons_self
  obj := fun i h ⟨hz, hI, ⟨x, y, hO⟩, h1, h2⟩ c hc => by
    have five : c = z ∨ c = TI ∨ c = TO ∨ c = i1 ∨ c = i2 := by simpa using hc
    rcases five with rfl | rfl | rfl | rfl | rfl
    · exact ⟨_, hz, fun v q => nomatch q⟩
    · exact ⟨_, hI, fun v q => nomatch q⟩
    · exact ⟨_, hO, fun v q => nomatch q⟩
    · exact K1.ob _ _ _ _ h1
    · exact K2.ob _ _ _ _ h2
  keep := fun i h g ⟨hz, hI, ⟨x, y, hO⟩, h1, h2⟩ k => ⟨k z (by simp) _ hz, k TI (by simp) _ hI, ⟨x, y, k TO (by simp) _ hO⟩, K1.mv _ _ _ _ _ h1 (k i1 (by simp)), K2.mv _ _ _ _ _ h2 (k i2 (by simp))⟩
  item := fun X hP hw hK hc i pins s σ H E I hf st hg => by
    subst hP hw
    obtain ⟨hz, hI, ⟨x0, y0, hO⟩, h1, h2⟩ := st
    obtain ⟨xs, ys, x, y, qx, qy, hx, hy⟩ := hg
    obtain ⟨its, rv, p, _⟩ := A1.rd X pins σ H s a xs hK I qx
    obtain ⟨jts, rw, p2, _⟩ := A2.rd X pins σ H s b ys hK I qy
    obtain ⟨u, hu, ru⟩ := rv.get hx
    obtain ⟨u2, hu2, ru2⟩ := rw.get hy
    have zl : z < s.heap.objs.size := Heap.lt_size hz
    refine nextZ_item K1 K2 Z hz hI hO h1 h2 p p2 (x := u) (y := u2) (by simpa using hu) (by simpa using hu2) fun g z2 O2 a2 b2 T2 sz hk => ?_
    refine ⟨_, rfl, wpAny_letOwnedTupleGo_zip (s := { s with heap := g }) z2 fun g3 z3 sb => ?_⟩
    have T3 : g3.get? s.heap.objs.size = some { cls := .type "tuple", data := .seq #[u, u2] } := (sb.2 _ (Nat.ne_of_gt zl)).trans T2
    have okT : ObjOk X.prog X.w (upd H s.heap.objs.size (.tup [x, y])) g3 s.heap.objs.size (.tup [x, y]) := ⟨by show 2 ≤ sizeLine; decide, [u, u2], .cons ru (.cons ru2 .nil), ⟨_, T3, rfl, _, rfl⟩⟩
    have J := I.turnedNew (t' := s.toks) (ch := [z, TI, TO, i1, i2]) (fun c o hb q => (sb.2 c (fun q2 => hb (by simp [q2]))).trans (hk c o (fun q2 => hb (by simp [q2])) (fun q2 => hb (by simp [q2])) (fun q2 => hb (by simp [q2])) (fun q2 => hb (by simp [q2])) q)) hf (Nat.le_refl _) okT
    refine ⟨.ref s.heap.objs.size, _, J, rfl, ⟨_, x, y, rfl, I.hok.fresh (Nat.le_refl _), rfl, fun l hl => by rw [A1.inj X pins σ H s a l xs hK I hl qx]; exact hx, fun l hl => by rw [A2.inj X pins σ H s b l ys hK I hl qy]; exact hy⟩, ⟨z3, ?_, ⟨u, u2, ?_⟩, ?_, ?_⟩, fun c hcm => ?_⟩
    · exact (sb.2 _ Z.TIz).trans (hk _ _ Z.TIz Z.TITO Z.TIi1 Z.TIi2 hI)
    · exact (sb.2 _ Z.TOz).trans O2
    · exact K1.mv _ _ _ _ _ a2 fun o q => (sb.2 _ Z.i1z).trans q
    · exact K2.mv _ _ _ _ _ b2 fun o q => (sb.2 _ Z.i2z).trans q
    · have cl : c < s.heap.objs.size := by
        have five : c = z ∨ c = TI ∨ c = TO ∨ c = i1 ∨ c = i2 := by simpa using hcm
        rcases five with rfl | rfl | rfl | rfl | rfl
        · exact zl
        · exact Heap.lt_size hI
        · exact Heap.lt_size hO
        · exact (K1.ob _ _ _ _ h1).elim fun o e => Heap.lt_size e.1
        · exact (K2.ob _ _ _ _ h2).elim fun o e => Heap.lt_size e.1
      rw [upd_ne (Nat.ne_of_lt cl)]
      exact (hf c hcm).1
  done := fun X hP hw hK hc i pins s σ H E I hf st hg => by
    subst hP hw
    obtain ⟨hz, hI, ⟨x0, y0, hO⟩, h1, h2⟩ := st
    obtain ⟨xs, ys, qx, qy, hend⟩ := hg
    obtain ⟨its, rv, p, _⟩ := A1.rd X pins σ H s a xs hK I qx
    obtain ⟨jts, rw, p2, _⟩ := A2.rd X pins σ H s b ys hK I qy
    have n1 := rv.length
    have n2 := rw.length
    have he : its.toArray[i]? = none ∨ jts.toArray[i]? = none := hend.elim (fun q => .inl (by simp; omega)) fun q => .inr (by simp; omega)
    exact nextZ_end (I.ok.hd hc) K1 K2 Z hz hI hO h1 h2 p p2 he fun g hk => ⟨rfl, I.turnedL (t' := s.toks) (ch := [z, TI, TO, i1, i2]) (fun c o hb q =>
      hk c o (fun q2 => hb (by simp [q2])) (fun q2 => hb (by simp [q2])) (fun q2 => hb (by simp [q2])) (fun q2 => hb (by simp [q2])) q) hf⟩
  self := fun A i s Q E st h => wpAny_pyIter_zip st.1 h
def iZipM (K : PySem.W.Frag) (ta : TA) : TI := fun σ H R => ta σ H fun vs H1 => ∃ a b xs ys, vs = [.ref a, .ref b] ∧ ((SqL K H1 a xs ∧ SqT K H1 b ys ∧ R (ItG (SqL K) (SqT K) a b) H1) ∨ (SqT K H1 a xs ∧ SqL K H1 b ys ∧ R (ItG (SqT K) (SqL K) a b) H1))
theorem pi_zipM {X : Cx} {e e2 : Expr} {ta : TA} {p pos tp : Pos} {es : List Expr} {kk : Nat} (hg : Gl X "zip") (hm : X.mg "zip" = none) (ha : PA X [e, e2] ta) (hs : starEach [e, e2] X.env = (false, eval e X.env) :: starEach [e2] X.env)
    (hpl : (backTo pos (starEach [e2] X.env)).any (·.1) = false) : PI X (.Tuple es kk tp) (.Call (.Name "zip" p) [e, e2] [] pos) (iZipM X.K ta) := by
  refine ⟨fun pins s σ H R I h => ?_⟩
  refine Call_ (ld_blt I hg hm PyProof.Rows.boot_zip (PyProof.Rows.callWith_type1 (thn (ha.run pos pins s σ H _ I h) fun us s1 ⟨vs, H1, I1, r1, a, b, xs, ys, ex, q1⟩ => ?_) hs hpl))
  subst ex
  obtain ⟨u1, u2, rfl, ra, rb⟩ : ∃ u1 u2, us = [u1, u2] ∧ RelV (.ref a) u1 ∧ RelV (.ref b) u2 := by
    cases r1 with
    | cons ra rr =>
      cases rr with
      | cons rb rr =>
        cases rr
        exact ⟨_, _, rfl, ra, rb⟩
  cases ra
  cases rb
  have five : ∀ c, c ∈ [s1.heap.objs.size + 4, s1.heap.objs.size + 2, s1.heap.objs.size + 3, s1.heap.objs.size, s1.heap.objs.size + 1] → FpOk X pins H1 c := fun c hcm => by
    have e5 : c = s1.heap.objs.size + 4 ∨ c = s1.heap.objs.size + 2 ∨ c = s1.heap.objs.size + 3 ∨ c = s1.heap.objs.size ∨ c = s1.heap.objs.size + 1 := by simpa using hcm
    have le : s1.heap.objs.size ≤ c := by
      rcases e5 with z | z | z | z | z <;> rw [z] <;> first | exact Nat.le_add_right _ _ | exact Nat.le_refl _
    exact I1.fpOk le (I1.hok.fresh le)
  rcases q1 with ⟨hx, hy, q⟩ | ⟨hx, hy, q⟩
  · obtain ⟨its, rv, p1, l1⟩ := seqKL.rd X pins σ H1 s1 a xs rfl I1 hx
    obtain ⟨jts, rw, p2, l2⟩ := seqKT.rd X pins σ H1 s1 b ys rfl I1 hy
    refine zLT_call p1 p2 fun g hz hI hO h1 h2 hk => wpAny_pyIter_zip hz ?_
    exact ⟨s1.heap.objs.size + 4, [s1.heap.objs.size + 4, s1.heap.objs.size + 2, s1.heap.objs.size + 3, s1.heap.objs.size, s1.heap.objs.size + 1], _, _, H1, rfl, I1.kept (t' := s1.toks) hk, turnG srcL srcT seqKL seqKT (PySem.W.ktu_apart s1.heap.objs.size a b l1 l2), ⟨hz, hI, ⟨_, _, hO⟩, h1, h2⟩, five, q⟩
  · obtain ⟨its, rv, p1, l1⟩ := seqKT.rd X pins σ H1 s1 a xs rfl I1 hx
    obtain ⟨jts, rw, p2, l2⟩ := seqKL.rd X pins σ H1 s1 b ys rfl I1 hy
    refine zTL_call p1 p2 fun g hz hI hO h1 h2 hk => wpAny_pyIter_zip hz ?_
    exact ⟨s1.heap.objs.size + 4, [s1.heap.objs.size + 4, s1.heap.objs.size + 2, s1.heap.objs.size + 3, s1.heap.objs.size, s1.heap.objs.size + 1], _, _, H1, rfl, I1.kept (t' := s1.toks) hk, turnG srcT srcL seqKT seqKL (PySem.W.ktu_apart s1.heap.objs.size a b l1 l2), ⟨hz, hI, ⟨_, _, hO⟩, h1, h2⟩, five, q⟩
@[simp] def fZip4 : List D → Res (List D)
  | [.lst as, .lst bs] => .ok (zipD as bs)
  | [.tup as, .tup bs] => .ok (zipD as bs)
  | [.lst as, .tup bs] => .ok (zipD as bs)
  | [.tup as, .lst bs] => .ok (zipD as bs)
  | _ => .stuck
section
variable {M : Fr} {W : WX} {X : Cx} {k : Nat} {pos : Pos}
theorem itOk_zip {F : Fx} {G1 : Hp} {Sa Sb : Hp → Addr → List V → Prop} {a b : Addr} {xs ys : List V} {as bs : List D} (h1 : ∀ G H, HG F G H → (∀ q o, G1 q = some o → G q = some o) → Sa H a xs ∧ Sb H b ys) (l : RpL F G1 as xs) (l2 : RpL F G1 bs ys) : ItOk F (ItG Sa Sb a b) G1 (zipD as bs) := by
  intro i G2 H2 s2 g2
  obtain ⟨hx, hy⟩ := h1 G2 H2 s2 g2
  refine ⟨fun d e => ?_, fun e => ⟨xs, ys, hx, hy, by rw [← l.length, ← l2.length]; rw [zipD_len] at e; omega⟩⟩
  obtain ⟨d1, d2, e2, e3, rfl⟩ := zipD_get as bs i d e
  obtain ⟨v1, e4, r4⟩ := l.get e2
  obtain ⟨v2, e5, r5⟩ := l2.get e3
  refine ⟨⟨xs, ys, v1, v2, hx, hy, e4, e5⟩, fun x H3 y => ?_⟩
  obtain ⟨T, x1, x2, rfl, hT, rfl, y1, y2⟩ := y
  have ex1 := y1 xs hx
  have ex2 := y2 ys hy
  rw [e4] at ex1
  rw [e5] at ex2
  cases ex1
  cases ex2
  exact new_pair s2 hT (r4.mono g2) (r5.mono g2)
theorem pit_zip4 (c : CO M W k X) {e e2 : Expr} {p tpos : Pos} {elts : List Expr} {kk : Nat} {fs} (hm : X.mg "zip" = none) (ha : PA' M W X [e, e2] fs) (hg : Gl X "zip" := by rfl)
    (hs : starEach [e, e2] X.env = (false, eval e X.env) :: starEach [e2] X.env := by rfl) (hpl : (backTo pos (starEach [e2] X.env)).any (·.1) = false := by rfl) :
    PIt M W X (.Tuple elts kk tpos) (.Call (.Name "zip" p) [e, e2] [] pos) (iCall fZip4 fs) := by
  obtain ⟨⟨t, et, qt⟩, hl⟩ := ha
  refine ⟨_, pi_or (RZ.pi_zipA hg hm et hs hpl) (pi_zipM hg hm et hs hpl), fun σ G H ε s Q hp => ?_⟩
  simp only [iCall] at hp
  cases e1 : fs ε with
  | stuck => rw [e1] at hp; exact hp.elim
  | err cc =>
    refine .inl (qt σ G H ε s _ ?_)
    rw [e1] at hp ⊢
    exact hp
  | ok q =>
    rw [e1] at hp
    simp only [Res.bind_ok] at hp
    unfold fZip4 at hp
    split at hp
    · rename_i as bs ej
      refine .inl (qt σ G H ε s _ ?_)
      rw [e1]
      intro vs G1 H1 s1 st1 rs
      rw [ej] at rs
      obtain ⟨v, w, rfl, r, r2⟩ := rpL2 rs
      obtain ⟨a, xs, rfl, ha, l⟩ := rp_lst.mp r
      obtain ⟨b, ys, rfl, hb, l2⟩ := rp_lst.mp r2
      exact ⟨a, b, xs, ys, rfl, .inl ⟨SqL.of (s1.sub _ _ ha), SqL.of (s1.sub _ _ hb), hp _ G1 H1 s1 st1 (itOk_zip (Sa := SqL X.K) (Sb := SqL X.K) (fun G2 H2 s2 g2 => ⟨SqL.of (s2.sub _ _ (g2 _ _ ha)), SqL.of (s2.sub _ _ (g2 _ _ hb))⟩) l l2)⟩⟩
    · rename_i as bs ej
      refine .inl (qt σ G H ε s _ ?_)
      rw [e1]
      intro vs G1 H1 s1 st1 rs
      rw [ej] at rs
      obtain ⟨v, w, rfl, r, r2⟩ := rpL2 rs
      obtain ⟨a, xs, rfl, ha, l⟩ := rp_tup.mp r
      obtain ⟨b, ys, rfl, hb, l2⟩ := rp_tup.mp r2
      rw [← c.hK] at ha hb
      exact ⟨a, b, xs, ys, rfl, .inr ⟨sqT_mono s1.sub ha, sqT_mono s1.sub hb, hp _ G1 H1 s1 st1 (itOk_zip (Sa := SqT X.K) (Sb := SqT X.K) (fun G2 H2 s2 g2 => ⟨sqT_mono s2.sub (sqT_mono g2 ha), sqT_mono s2.sub (sqT_mono g2 hb)⟩) l l2)⟩⟩
    · rename_i as bs ej
      refine .inr (qt σ G H ε s _ ?_)
      rw [e1]
      intro vs G1 H1 s1 st1 rs
      rw [ej] at rs
      obtain ⟨v, w, rfl, r, r2⟩ := rpL2 rs
      obtain ⟨a, xs, rfl, ha, l⟩ := rp_lst.mp r
      obtain ⟨b, ys, rfl, hb, l2⟩ := rp_tup.mp r2
      rw [← c.hK] at hb
      exact ⟨a, b, xs, ys, rfl, .inl ⟨SqL.of (s1.sub _ _ ha), sqT_mono s1.sub hb, hp _ G1 H1 s1 st1 (itOk_zip (Sa := SqL X.K) (Sb := SqT X.K) (fun G2 H2 s2 g2 => ⟨SqL.of (s2.sub _ _ (g2 _ _ ha)), sqT_mono s2.sub (sqT_mono g2 hb)⟩) l l2)⟩⟩
    · rename_i as bs ej
      refine .inr (qt σ G H ε s _ ?_)
      rw [e1]
      intro vs G1 H1 s1 st1 rs
      rw [ej] at rs
      obtain ⟨v, w, rfl, r, r2⟩ := rpL2 rs
      obtain ⟨a, xs, rfl, ha, l⟩ := rp_tup.mp r
      obtain ⟨b, ys, rfl, hb, l2⟩ := rp_lst.mp r2
      rw [← c.hK] at ha
      exact ⟨a, b, xs, ys, rfl, .inr ⟨sqT_mono s1.sub ha, SqL.of (s1.sub _ _ hb), hp _ G1 H1 s1 st1 (itOk_zip (Sa := SqT X.K) (Sb := SqL X.K) (fun G2 H2 s2 g2 => ⟨sqT_mono s2.sub (sqT_mono g2 ha), SqL.of (s2.sub _ _ (g2 _ _ hb))⟩) l l2)⟩⟩
    · exact hp.elim
end
end PL
/-! PL, part y: portions as rational numbers. -/
namespace PL
open PySem L2
def rd (q : Rat) : D := .tup [.int q.num, .int (q.den : Int)]
theorem rat_nd (q : Rat) : (q.num : Rat) = q * (q.den : Rat) := by
  have h := Rat.mkRat_self q
  rw [Rat.mkRat_eq_div] at h
  have d : (q.den : Rat) ≠ 0 := by
    intro z
    have := Rat.natCast_eq_zero_iff.mp z
    exact q.den_nz this
  grind
theorem den_ne (q : Rat) : (q.den : Rat) ≠ 0 := fun z => q.den_nz (Rat.natCast_eq_zero_iff.mp z)
theorem lowP {t b : Int} (hb : 0 < b) : t.fdiv ((Nat.gcd t.natAbs b.natAbs : Nat) : Int) = ((t : Rat) / (b : Rat)).num ∧ b.fdiv ((Nat.gcd t.natAbs b.natAbs : Nat) : Int) = (((t : Rat) / (b : Rat)).den : Int) := by
  have e : (t : Rat) / (b : Rat) = mkRat t b.toNat := by
    rw [Rat.mkRat_eq_div]
    congr 1
    have h : ((b.toNat : Nat) : Int) = b := Int.toNat_of_nonneg (by omega)
    rw [← Rat.intCast_natCast, h]
  have bn : b.toNat ≠ 0 := by omega
  have en : b.natAbs = b.toNat := by omega
  rw [e, Rat.mkRat_def, dif_neg bn, Rat.normalize_eq, en]
  have f : ∀ x : Int, x.fdiv ((Nat.gcd t.natAbs b.toNat : Nat) : Int) = x / ((Nat.gcd t.natAbs b.toNat : Nat) : Int) := fun x => Int.fdiv_eq_ediv_of_nonneg _ (by omega)
  refine ⟨f t, ?_⟩
  rw [f b]
  show b / ((Nat.gcd t.natAbs b.toNat : Nat) : Int) = ((b.toNat / Nat.gcd t.natAbs b.toNat : Nat) : Int)
  rw [Int.natCast_ediv, Int.toNat_of_nonneg (by omega)]
structure Sz (q : Rat) : Prop where
  n : q.num.natAbs < 2 ^ 420
  d : q.den < 2 ^ 420
theorem log420 {x : Nat} (h : x < 2 ^ 420) : x.log2 < 420 := by
  by_cases h0 : x = 0
  · subst h0; decide
  · exact (Nat.log2_lt h0).mpr h
theorem mulOk420 {a b : Int} (ha : a.natAbs < 2 ^ 420) (hb : b.natAbs < 2 ^ 420) : mulOk a b = true := by
  have h1 := log420 ha
  have h2 := log420 hb
  simp only [mulOk, Bool.or_eq_true, decide_eq_true_eq]
  exact .inl (.inl (by omega))
theorem mul420 {a b : Nat} (ha : a < 2 ^ 420) (hb : b < 2 ^ 420) : a * b < 2 ^ 840 := by
  have c : a * b < 2 ^ 420 * 2 ^ 420 := Nat.mul_lt_mul'' ha hb
  rwa [← Nat.pow_add] at c
/-- q is so many D-th parts -/
def Bd (q : Rat) (D N : Nat) : Prop := 0 < D ∧ ∃ A : Int, q * (D : Rat) = (A : Rat) ∧ A.natAbs ≤ N
theorem Bd.self (q : Rat) : Bd q q.den q.num.natAbs := ⟨q.den_pos, q.num, (rat_nd q).symm, Nat.le_refl _⟩
theorem Bd.add {a b : Rat} {D N M : Nat} (x : Bd a D N) (y : Bd b D M) : Bd (a + b) D (N + M) := by
  obtain ⟨h, A, e, l⟩ := x
  obtain ⟨_, B, f, m⟩ := y
  refine ⟨h, A + B, ?_, by omega⟩
  rw [Rat.intCast_add]
  grind
theorem Bd.neg {a : Rat} {D N : Nat} (x : Bd a D N) : Bd (-a) D N := by
  obtain ⟨h, A, e, l⟩ := x
  refine ⟨h, -A, ?_, by omega⟩
  rw [Rat.intCast_neg]
  grind
theorem Bd.sub {a b : Rat} {D N M : Nat} (x : Bd a D N) (y : Bd b D M) : Bd (a - b) D (N + M) := by
  have := x.add y.neg
  rwa [← Rat.sub_eq_add_neg] at this
theorem Bd.mul {a b : Rat} {D E N M : Nat} (x : Bd a D N) (y : Bd b E M) : Bd (a * b) (D * E) (N * M) := by
  obtain ⟨h, A, e, l⟩ := x
  obtain ⟨h2, B, f, m⟩ := y
  refine ⟨Nat.mul_pos h h2, A * B, ?_, by rw [Int.natAbs_mul]; exact Nat.mul_le_mul l m⟩
  rw [Rat.intCast_mul, Rat.natCast_mul]
  grind
theorem Bd.up {a : Rat} {D N k : Nat} (x : Bd a D N) (hk : 0 < k) : Bd a (D * k) (N * k) := by
  obtain ⟨h, A, e, l⟩ := x
  refine ⟨Nat.mul_pos h hk, A * (k : Int), ?_, by rw [Int.natAbs_mul, Int.natAbs_natCast]; exact Nat.mul_le_mul_right _ l⟩
  rw [Rat.intCast_mul, Rat.natCast_mul, Rat.intCast_natCast]
  grind
theorem Bd.mono {a : Rat} {D N M : Nat} (x : Bd a D N) (h : N ≤ M) : Bd a D M := by
  obtain ⟨h0, A, e, l⟩ := x
  exact ⟨h0, A, e, by omega⟩
theorem Bd.nat (n : Nat) : Bd (n : Rat) 1 n := ⟨by decide, (n : Int), by rw [Rat.intCast_natCast]; grind, by omega⟩
theorem Bd.sz {q : Rat} {D N : Nat} (x : Bd q D N) (hD : D < 2 ^ 420) (hN : N < 2 ^ 420) : Sz q := by
  obtain ⟨h0, A, e, l⟩ := x
  have e2 : q.num * (D : Int) = A * (q.den : Int) := by
    apply Rat.intCast_inj.mp
    rw [Rat.intCast_mul, Rat.intCast_mul, Rat.intCast_natCast, Rat.intCast_natCast, rat_nd q]
    grind
  have e3 : q.num.natAbs * D = A.natAbs * q.den := by
    have := congrArg Int.natAbs e2
    rwa [Int.natAbs_mul, Int.natAbs_mul, Int.natAbs_natCast, Int.natAbs_natCast] at this
  have dv : q.den ∣ D := by
    have : q.den ∣ q.num.natAbs * D := ⟨A.natAbs, by rw [e3, Nat.mul_comm]⟩
    exact (Nat.Coprime.symm q.reduced).dvd_of_dvd_mul_left this
  have dl : q.den ≤ D := Nat.le_of_dvd h0 dv
  refine ⟨?_, Nat.lt_of_le_of_lt dl hD⟩
  have : q.num.natAbs ≤ A.natAbs := by
    have h1 : q.num.natAbs * D ≤ A.natAbs * D := by rw [e3]; exact Nat.mul_le_mul_left _ dl
    exact Nat.le_of_mul_le_mul_right h1 h0
  omega
theorem num_neg {q : Rat} : q.num < 0 ↔ q < 0 := by
  have := @Rat.num_nonneg q
  constructor
  · intro h
    refine Rat.not_le.mp fun z => ?_
    have := this.mpr z
    omega
  · intro h
    refine Int.not_le.mp fun z => ?_
    exact absurd (this.mp z) (Rat.not_le.mpr h)
/-- the program's comparison -/
theorem lead_lt (a b : Rat) : 0 < a.num * (b.den : Int) - b.num * (a.den : Int) ↔ b < a := by
  rw [Rat.lt_iff]
  omega
theorem lead_le (a b : Rat) : 0 ≤ a.num * (b.den : Int) - b.num * (a.den : Int) ↔ b ≤ a := by
  rw [Rat.le_iff]
  omega
theorem sub_neg (a b : Rat) : (a - b).num < 0 ↔ a < b := by
  rw [num_neg]
  grind
theorem sub_nonneg (a b : Rat) : 0 ≤ (a - b).num ↔ b ≤ a := by
  rw [Rat.num_nonneg]
  grind
end PL
namespace PL
theorem mul_as (a b : Rat) : ((a.num * b.num : Int) : Rat) / (((a.den : Int) * (b.den : Int) : Int) : Rat) = a * b := by
  have := rat_nd a; have := rat_nd b; have := den_ne a; have := den_ne b
  rw [Rat.intCast_mul, Rat.intCast_mul, Rat.intCast_natCast, Rat.intCast_natCast]
  grind
theorem add_as (a b : Rat) : ((a.num * (b.den : Int) + b.num * (a.den : Int) : Int) : Rat) / (((a.den : Int) * (b.den : Int) : Int) : Rat) = a + b := by
  have := rat_nd a; have := rat_nd b; have := den_ne a; have := den_ne b
  rw [Rat.intCast_add, Rat.intCast_mul, Rat.intCast_mul, Rat.intCast_mul, Rat.intCast_natCast, Rat.intCast_natCast]
  grind
theorem sub_as (a b : Rat) : ((a.num * (b.den : Int) - b.num * (a.den : Int) : Int) : Rat) / (((a.den : Int) * (b.den : Int) : Int) : Rat) = a - b := by
  have := rat_nd a; have := rat_nd b; have := den_ne a; have := den_ne b
  rw [Rat.intCast_sub, Rat.intCast_mul, Rat.intCast_mul, Rat.intCast_mul, Rat.intCast_natCast, Rat.intCast_natCast]
  grind
theorem div_as (a b : Rat) (h : 0 < b.num) : ((a.num * (b.den : Int) : Int) : Rat) / (((a.den : Int) * b.num : Int) : Rat) = a / b := by
  have := rat_nd a; have h2 := rat_nd b; have := den_ne a; have := den_ne b
  have hb : b ≠ 0 := fun z => by rw [z] at h; exact absurd h (by decide)
  rw [Rat.intCast_mul, Rat.intCast_mul, Rat.intCast_natCast, Rat.intCast_natCast]
  grind
theorem rest_as (a : Rat) : (((a.den : Int) - a.num : Int) : Rat) / ((a.den : Int) : Rat) = 1 - a := by
  have := rat_nd a; have := den_ne a
  rw [Rat.intCast_sub, Rat.intCast_natCast]
  grind
theorem share_as (a : Rat) (m : Nat) (h : 0 < m) : ((a.num : Int) : Rat) / (((a.den : Int) * (m : Int) : Int) : Rat) = a / (m : Rat) := by
  have := rat_nd a; have := den_ne a
  have hm : (m : Rat) ≠ 0 := fun z => by have := Rat.natCast_eq_zero_iff.mp z; omega
  rw [Rat.intCast_mul, Rat.intCast_natCast, Rat.intCast_natCast]
  grind
theorem rd_nat (m : Nat) : rd (m : Rat) = .tup [.int (m : Int), .int 1] := by
  unfold rd
  rw [Rat.num_natCast]
  simp
theorem rd_neg (q : Rat) : rd (-q) = .tup [.int (-q.num), .int (q.den : Int)] := by
  unfold rd
  rw [Rat.neg_num]
  rfl
end PL
namespace PL
open PySem L2
variable {ε ε1 ε2 ε3 : Ev} {d a b : D} {ds es : List D}
theorem eCB_ok {g : List D → Res D} {fs : Ev → Res (List D × Ev)} (h : fs ε = .ok (ds, ε1)) (h2 : g ds = .ok d) : eCB g fs ε = .ok (d, ε1) := by simp only [eCB, h, Res.bind_ok, h2]
theorem aCons_ok {f : Ev → Res (D × Ev)} {fs : Ev → Res (List D × Ev)} (h : f ε = .ok (d, ε1)) (h2 : fs ε1 = .ok (ds, ε2)) : aCons f fs ε = .ok (d :: ds, ε2) := by simp only [aCons, h, Res.bind_ok, h2]
theorem aNil_ok : aNil ε = .ok ([], ε) := rfl
theorem eL_ok {fs : Ev → Res (List D × Ev)} (h : fs ε = .ok (ds, ε1)) : eL fs ε = .ok (.lst ds, ε1) := by simp only [eL, h, Res.bind_ok]
theorem eTup_ok {fs : Ev → Res (List D × Ev)} (h : fs ε = .ok (ds, ε1)) : eTup fs ε = .ok (.tup ds, ε1) := by simp only [eTup, h, Res.bind_ok]
theorem eOp_ok {op : D → D → Res D} {fa fb : Ev → Res (D × Ev)} (h : fa ε = .ok (a, ε1)) (h2 : fb ε1 = .ok (b, ε2)) (h3 : op a b = .ok d) : eOp op fa fb ε = .ok (d, ε2) := by simp only [eOp, h, Res.bind_ok, h2, h3]
theorem eOpN_ok {op : D → D → Res (List D)} {fa fb : Ev → Res (D × Ev)} (h : fa ε = .ok (a, ε1)) (h2 : fb ε1 = .ok (b, ε2)) (h3 : op a b = .ok ds) : eOpN op fa fb ε = .ok (ds, ε2) := by simp only [eOpN, h, Res.bind_ok, h2, h3]
theorem eUn_ok {op : D → Res D} {fa : Ev → Res (D × Ev)} (h : fa ε = .ok (a, ε1)) (h3 : op a = .ok d) : eUn op fa ε = .ok (d, ε1) := by simp only [eUn, h, Res.bind_ok, h3]
theorem bOf_ok {f : Ev → Res (D × Ev)} {c : Bool} (h : f ε = .ok (.bl c, ε1)) : bOf f ε = .ok (c, ε1) := by simp only [bOf, h, Res.bind_ok, asB]
theorem bNot_ok {f : Ev → Res (Bool × Ev)} {c : Bool} (h : f ε = .ok (c, ε1)) : bNot f ε = .ok (!c, ε1) := by simp only [bNot, h, Res.bind_ok]
theorem sOwn_ok {i : Nat} {fs : Ev → Res (List D × Ev)} (h : fs ε = .ok (ds, ε1)) (hi : i < ε1.length) (h3 : ε1.set i (.ow ds) = ε2) : sOwn i fs ε = .nx ε2 := by simp only [sOwn, h, Res.out, hi, if_true, h3]
theorem sTg_ok {tgt : D → Ev → Res Ev} {f : Ev → Res (D × Ev)} (h : f ε = .ok (d, ε1)) (h2 : tgt d ε1 = .ok ε2) : sTg tgt f ε = .nx ε2 := by simp only [sTg, h, Res.out, h2, Res.ne]
theorem sIf_t {c : Ev → Res (Bool × Ev)} {f g : Ev → Out} {o : Out} (h : c ε = .ok (true, ε1)) (h2 : f ε1 = o) : sIf c f g ε = o := by simp only [sIf, h, Res.out, if_true, h2]
theorem sIf_f {c : Ev → Res (Bool × Ev)} {f g : Ev → Out} {o : Out} (h : c ε = .ok (false, ε1)) (h2 : g ε1 = o) : sIf c f g ε = o := by simp only [sIf, h, Res.out, if_false, h2, Bool.false_eq_true]
theorem eIf_t {c : Ev → Res (Bool × Ev)} {f g : Ev → Res (D × Ev)} {r : Res (D × Ev)} (h : c ε = .ok (true, ε1)) (h2 : f ε1 = r) : eIf c f g ε = r := by simp only [eIf, h, Res.bind_ok, if_true, h2]
theorem eIf_f {c : Ev → Res (Bool × Ev)} {f g : Ev → Res (D × Ev)} {r : Res (D × Ev)} (h : c ε = .ok (false, ε1)) (h2 : g ε1 = r) : eIf c f g ε = r := by simp only [eIf, h, Res.bind_ok, if_false, h2, Bool.false_eq_true]
/-- if not f(..): return False — goes on -/
theorem sIfN_ok {f : Ev → Res (D × Ev)} {g : Ev → Out} (h : f ε = .ok (.bl true, ε1)) : sIf (bNot (bOf f)) g (fun ε => .nx ε) ε = .nx ε1 := sIf_f (bNot_ok (bOf_ok h)) rfl
theorem sAppend_ok {i : Nat} {f : Ev → Res (D × Ev)} (h0 : getOw ε i = .ok es) (h : f ε = .ok (d, ε1)) (h1 : getOw ε1 i = .ok ds) (hl : ds.length ≤ 1000000) (h3 : ε1.set i (.ow (ds ++ [d])) = ε2) : sAppend i f ε = .nx ε2 := by simp only [sAppend, h0, h, h1, Res.out, hl, if_true, h3]
theorem sFor_ok {src : Ev → Res (List D × Ev)} {tgt : D → Ev → Res Ev} {body : Ev → Out} {o : Out} (h : src ε = .ok (ds, ε1)) (h2 : forF tgt body ds ε1 = o) : sFor src tgt body ε = o := by simp only [sFor, h, Res.out, h2]
end PL
namespace PL
open PySem PySem.Spec PyProof.Rows L2
open Sem (wp)
def iEnumT2 (K : PySem.W.Frag) (ta : TA) : TI := fun σ H R => ta σ H fun vs H1 => ∃ a xs k, vs = [.ref a, .int k] ∧ (-(2 ^ 63) ≤ k ∧ k < 2 ^ 63) ∧ SqT K H1 a xs ∧ R (IteT K k a) H1
theorem pi_enumT2 {X : Cx} {e e2 : Expr} {ta : TA} {p pos tpos : Pos} {elts : List Expr} {kk : Nat} (hg : Gl X "enumerate") (hm : X.mg "enumerate" = none) (ha : PA X [e, e2] ta)
    (hs : starEach [e, e2] X.env = (false, eval e X.env) :: starEach [e2] X.env := by rfl) (hpl : (backTo pos (starEach [e2] X.env)).any (·.1) = false := by rfl) :
    PI X (.Tuple elts kk tpos) (.Call (.Name "enumerate" p) [e, e2] [] pos) (iEnumT2 X.K ta) := by
  refine ⟨fun pins s σ H R I h => ?_⟩
  refine Call_ (ld_blt I hg hm boot_enumerate (PyProof.Rows.callWith_type1 (thn (ha.run pos pins s σ H _ I h) fun us s1 ⟨vs, H1, I1, r1, q1⟩ => ?_) hs hpl))
  obtain ⟨a, xs, c, ex, ⟨c0, c1⟩, hq, q⟩ := q1
  subst ex
  cases r1 with
  | cons r rr =>
    cases rr with
    | cons r' rr =>
      cases rr
      cases r
      obtain ⟨t, rfl⟩ := r'
      obtain ⟨its, rv, p', hz⟩ := I1.tuple hq
      refine enum_begins (begins_tuple a its.toArray) p' c0 c1 fun h' he hit hsz hk => wpAny_pyIter_enum he ?_
      have I2 : Inv X pins σ H1 { s1 with heap := h' } := I1.kept (t' := s1.toks) hk
      refine ⟨s1.heap.objs.size + 1, [s1.heap.objs.size + 1, s1.heap.objs.size], _, _, H1, rfl, I2, turn_enumT c a (s1.heap.objs.size + 1) s1.heap.objs.size, ⟨⟨.none, by simpa using he⟩, ⟨_, hit, rfl, rfl⟩, Nat.succ_ne_self _⟩, fun b hb => ?_, q⟩
      have hle : s1.heap.objs.size ≤ b := by
        rcases (by simpa using hb : b = s1.heap.objs.size + 1 ∨ b = s1.heap.objs.size) with z | z
        · rw [z]; exact Nat.le_add_right _ _
        · rw [z]; exact Nat.le_refl _
      exact I1.fpOk hle (I1.hok.fresh hle)
section
variable {M : Fr} {W : WX} {X : Cx} {k : Nat} {e e2 : Expr} {pos : Pos}
@[simp] def fEnum2 : List D → Res (List D)
  | [.tup ds, .int 1] => .ok (enumD 1 ds)
  | _ => .stuck
theorem pit_enum2 (c : CO M W k X) {p tpos : Pos} {elts : List Expr} {kk : Nat} {fs} (hm : X.mg "enumerate" = none) (ha : PA' M W X [e, e2] fs) (hg : Gl X "enumerate" := by rfl) (hs : starEach [e, e2] X.env = (false, eval e X.env) :: starEach [e2] X.env := by rfl) (hpl : (backTo pos (starEach [e2] X.env)).any (·.1) = false := by rfl) :
    PIt M W X (.Tuple elts kk tpos) (.Call (.Name "enumerate" p) [e, e2] [] pos) (iCall fEnum2 fs) := by
  obtain ⟨⟨t, et, qt⟩, hl⟩ := ha
  refine ⟨_, pi_enumT2 hg hm et hs hpl, fun σ G H ε s Q hp => ?_⟩
  simp only [iCall] at hp
  cases e1 : fs ε with
  | stuck => rw [e1] at hp; exact hp.elim
  | err cc =>
    rw [e1] at hp
    refine qt σ G H ε s _ ?_
    rw [e1]; exact hp
  | ok p =>
    rw [e1] at hp
    simp only [Res.bind_ok] at hp
    unfold fEnum2 at hp
    split at hp
    · rename_i ds ej
      refine qt σ G H ε s _ ?_
      rw [e1]
      intro vs G1 H1 s1 st1 rs
      rw [ej] at rs
      obtain ⟨v, w, rfl, r, r2⟩ := rpL2 rs
      rw [rp_int] at r2; subst r2
      obtain ⟨a, ws, rfl, ha, l⟩ := rp_tup.mp r
      rw [← c.hK] at ha
      refine ⟨a, ws, 1, rfl, ⟨by decide, by decide⟩, sqT_mono s1.sub ha, hp _ G1 H1 s1 st1 ?_⟩
      intro i G2 H2 s2 g2
      have hs : SqT X.K H2 a ws := sqT_mono s2.sub (sqT_mono g2 ha)
      refine ⟨fun d e => ?_, fun e => ⟨ws, hs, by rw [← l.length]; rw [enumD_len] at e; exact e⟩⟩
      obtain ⟨d0, e2, rfl⟩ := enumD_get ds 1 i d e
      obtain ⟨v, e3, r⟩ := l.get e2
      refine ⟨⟨ws, v, hs, e3⟩, fun x H' y => ?_⟩
      obtain ⟨T, x0, rfl, hT, rfl, y⟩ := y
      have ex := y ws hs
      rw [e3] at ex
      cases ex
      exact new_pair s2 hT (rp_int.mpr (by simp)) (r.mono g2)
    · exact hp.elim
end
end PL
/-! PL, part za: sorted lists of tuples of whole numbers, or of whole numbers. -/
namespace PL
open PySem PySem.Spec PyProof.Rows L2
open PySem.W (dataLe AllAlike Sortable EachIs)
theorem mem_sort {α : Type} {le : α → α → Bool} {l : List α} {x : α} (h : x ∈ l.mergeSort le) : x ∈ l := (List.mergeSort_perm l le).mem_iff.mp h
def rSortD (K : PySem.W.Frag) : List V → Hp → VK → Prop := fun xs H Q => ∃ (p : Addr) (bs : List (V × PyData)), xs = [.ref p] ∧ SqL K H p (bs.map (·.1)) ∧ (∀ b ∈ bs, Dp K H b.1 b.2 ∧ b.2.depth ≤ 20) ∧ AllAlike (bs.map (·.2)) ∧ Sortable (bs.map (·.2)) ∧
  ∀ l, H l = none → Q (.ref l) (upd H l (.lst ((bs.mergeSort (dataLe false (·.2))).map (·.1))))
theorem each_of {P : V × PyData → Prop} : ∀ {bs : List (V × PyData)} {its : List Value}, Vals (bs.map (·.1)) its → (∀ b ∈ bs, P b) → EachIs (fun u b => RelV b.1 u ∧ P b) its bs
  | [], _, h, _ => by cases h; exact .nil
  | b :: bs, _, h, hp => by
    cases h with
    | cons h1 h2 => exact .cons ⟨h1, hp b (by simp)⟩ (each_of h2 fun c hc => hp c (by simp [hc]))
theorem vals_each : ∀ {bs : List (V × PyData)} {its : List Value}, EachIs (fun u b => RelV b.1 u) its bs → Vals (bs.map (·.1)) its
  | [], _, h => by cases h; exact .nil
  | b :: bs, _, h => by
    cases h with
    | cons h1 h2 => exact .cons h1 (vals_each h2)
theorem each_mono {α β : Type} {R S : α → β → Prop} (h : ∀ a b, R a b → S a b) : ∀ {as : List α} {bs : List β}, EachIs R as bs → EachIs S as bs
  | _, _, .nil => .nil
  | _, _, .cons h1 t => .cons (h _ _ h1) (each_mono h t)
theorem cr_sortD {X : Cx} (hu : X.A.units + 64 < cLine) : CallR X (.builtin "sorted") (rSortD X.K) := by
  intro pins s σ H xs us Q I r h
  obtain ⟨p, bs, rfl, hs, hd, ha, hk, q⟩ := h
  obtain ⟨its, rv, hl, hz⟩ := I.list hs
  rw [Vals.ref1 r]
  have e := each_of rv hd
  have er : EachIs (fun u b => ∃ as, Reads s.heap u b.2 as) its bs := each_mono (fun u b h => Dp.reads I b.2 b.1 u h.2.1 h.1) e
  rw [List.length_map] at hz
  refine PySem.W.sorted_data (enc := (·.2)) (R := fun u b => RelV b.1 u) hl.isList (each_mono (fun _ _ h => h.1) e) er ha hk hz (fun b hb => by have := (hd b hb).2; omega) fun out ho eo => ?_
  obtain ⟨ep, he'⟩ := PyProof.Rows.sortedAll_at s.heap its out.toArray
  have hlen : ((bs.mergeSort (dataLe false (·.2))).map (·.1)).length ≤ sizeLine := by rw [List.length_map, List.length_mergeSort]; exact hz
  exact ⟨.ref _, upd H (s.heap.objs.size + 1) (.lst ((bs.mergeSort (dataLe false (·.2))).map (·.1))), I.laid (t' := s.toks) (fun _ _ => PyProof.Rows.sortedAll_old) (Nat.le_succ _) ⟨hlen, out, ep, vals_each eo, he'⟩, rfl, q _ (I.hok.fresh (Nat.le_succ _))⟩
def isI : D → Bool
  | .int _ => true
  | _ => false
def isTI : D → Bool
  | .tup (.int _ :: r) => r.all isI
  | _ => false
def leD (a b : D) : Bool := dataLe false D.pyd a b
def fSorted : List D → Res (List D)
  | [.lst ds] => if (ds.all isTI || ds.all isI) = true then .ok (ds.mergeSort leD) else .stuck
  | _ => .stuck
theorem isI_as {d : D} (h : isI d = true) : ∃ i, d = .int i := by
  cases d with
  | int i => exact ⟨i, rfl⟩
  | _ => cases h
theorem allI_pyd : ∀ {ds : List D}, ds.all isI = true → ∃ ns : List Int, D.pydL ds = ns.map .int
  | [], _ => ⟨[], rfl⟩
  | d :: ds, h => by
    simp only [List.all_cons, Bool.and_eq_true] at h
    obtain ⟨i, rfl⟩ := isI_as h.1
    obtain ⟨ns, e⟩ := allI_pyd h.2
    exact ⟨i :: ns, by simp only [D.pydL, D.pyd, e, List.map_cons]⟩
theorem isTI_pyd {d : D} (h : isTI d = true) : ∃ (i : Int) (ns : List Int), d.pyd = .tuple (.int i :: ns.map .int) := by
  unfold isTI at h
  split at h
  · rename_i i r
    obtain ⟨ns, e⟩ := allI_pyd h
    exact ⟨i, ns, by simp only [D.pyd, D.pydL, e]⟩
  · cases h
theorem okq_I : ∀ {ds : List D} {n : Nat}, ds.all isI = true → D.okqL n ds = true
  | [], _, _ => rfl
  | d :: ds, n, h => by
    simp only [List.all_cons, Bool.and_eq_true] at h
    obtain ⟨i, rfl⟩ := isI_as h.1
    have e : ∀ n, D.okq n (.int i) = true := fun n => by cases n <;> rfl
    simp only [D.okqL, e, okq_I h.2, Bool.and_self]
theorem okq_TI {d : D} (h : isTI d = true) : D.okq 20 d = true := by
  unfold isTI at h
  split at h
  · rename_i i r
    show D.okqL 19 (.int i :: r) = true
    exact okq_I (by simp only [List.all_cons, h, isI, Bool.and_self])
  · cases h
theorem isI_okq {d : D} (h : isI d = true) : D.okq 20 d = true := by
  obtain ⟨i, rfl⟩ := isI_as h
  rfl
theorem rpL_zip {F : Fx} {G : Hp} : ∀ {ds : List D} {vs : List V}, RpL F G ds vs → ∃ zs : List (V × D), vs = zs.map (·.1) ∧ ds = zs.map (·.2) ∧ ∀ z ∈ zs, Rp F G z.2 z.1
  | [], vs, h => ⟨[], by rw [h.of_nil]; rfl, rfl, fun _ h => by cases h⟩
  | d :: ds, vs, h => by
    obtain ⟨v, ws, rfl, a, l⟩ := h.of_cons
    obtain ⟨zs, e1, e2, p⟩ := rpL_zip l
    refine ⟨(v, d) :: zs, by rw [e1]; rfl, by rw [e2]; rfl, fun z hz => ?_⟩
    rcases List.mem_cons.mp hz with rfl | hz
    · exact a
    · exact p z hz
theorem rpL_unzip {F : Fx} {G : Hp} : ∀ {zs : List (V × D)}, (∀ z ∈ zs, Rp F G z.2 z.1) → RpL F G (zs.map (·.2)) (zs.map (·.1))
  | [], _ => rfl
  | z :: zs, h => ⟨_, _, rfl, h z (by simp), rpL_unzip fun y hy => h y (by simp [hy])⟩
theorem cn_sorted {M : Fr} {W : WX} : CallN M W (rSortD M.F.K) fSorted := by
  intro ds vs σ G H ε s rs Q hp
  unfold fSorted at hp
  split at hp
  · rename_i es
    split at hp
    · rename_i hc
      obtain ⟨v, rfl, r⟩ := rpL1 rs
      obtain ⟨p, ws, rfl, hp', l⟩ := rp_lst.mp r
      obtain ⟨zs, rfl, rfl, hz⟩ := rpL_zip l
      have hokq : ∀ d ∈ zs.map (·.2), D.okq 20 d = true := fun d hd => by
        rcases Bool.or_eq_true_iff.mp hc with h | h
        · exact okq_TI (List.all_eq_true.mp h d hd)
        · exact isI_okq (List.all_eq_true.mp h d hd)
      have e1 : (zs.map fun z => (z.1, z.2.pyd)).map (·.1) = zs.map (·.1) := by rw [List.map_map]; rfl
      have e2 : (zs.map fun z => (z.1, z.2.pyd)).map (·.2) = (zs.map (·.2)).map D.pyd := by rw [List.map_map, List.map_map]; rfl
      have m1 : ((zs.map fun z => (z.1, z.2.pyd)).mergeSort (dataLe false (·.2))).map (·.1) = (zs.mergeSort fun a b => leD a.2 b.2).map (·.1) := by
        rw [← List.map_mergeSort (r := fun a b => leD a.2 b.2) (s := dataLe false (·.2)) (f := fun z : V × D => (z.1, z.2.pyd)) (fun _ _ _ _ => rfl), List.map_map]
        rfl
      have m2 : (zs.map (·.2)).mergeSort leD = (zs.mergeSort fun a b => leD a.2 b.2).map (·.2) :=
        (List.map_mergeSort (r := fun a b => leD a.2 b.2) (s := leD) (f := fun z : V × D => z.2) (fun _ _ _ _ => rfl)).symm
      refine ⟨p, zs.map fun z => (z.1, z.2.pyd), rfl, ?_, ?_, ?_, ?_, fun q hq => ?_⟩
      · rw [e1]
        exact SqL.of (s.sub _ _ hp')
      · intro b hb
        obtain ⟨z, hz1, rfl⟩ := List.mem_map.mp hb
        have o := hokq z.2 (List.mem_map.mpr ⟨z, hz1, rfl⟩)
        exact ⟨rp_dp s.sub z.2 20 z.1 o (hz z hz1), (okq_canLay z.2 20 o).2⟩
      · rw [e2]
        intro d hd d' hd'
        obtain ⟨x, hx, rfl⟩ := List.mem_map.mp hd
        obtain ⟨y, hy, rfl⟩ := List.mem_map.mp hd'
        rcases Bool.or_eq_true_iff.mp hc with h | h
        · obtain ⟨i, ns, e3⟩ := isTI_pyd (List.all_eq_true.mp h x hx)
          obtain ⟨j, ms, e4⟩ := isTI_pyd (List.all_eq_true.mp h y hy)
          rw [e3, e4]
          have := PySem.W.alike_ints (i :: ns) (j :: ms)
          simpa [PySem.W.alike] using this
        · obtain ⟨i, rfl⟩ := isI_as (List.all_eq_true.mp h x hx)
          obtain ⟨j, rfl⟩ := isI_as (List.all_eq_true.mp h y hy)
          simp [D.pyd, PySem.W.alike]
      · rw [e2]
        rcases Bool.or_eq_true_iff.mp hc with h | h
        · refine .inl fun d hd => ?_
          obtain ⟨x, hx, rfl⟩ := List.mem_map.mp hd
          obtain ⟨i, ns, e3⟩ := isTI_pyd (List.all_eq_true.mp h x hx)
          exact ⟨_, _, e3⟩
        · refine .inr fun d hd => ?_
          obtain ⟨x, hx, rfl⟩ := List.mem_map.mp hd
          obtain ⟨i, rfl⟩ := isI_as (List.all_eq_true.mp h x hx)
          exact ⟨by simp [D.pyd], by simp [D.pyd]⟩
      · rw [m1]
        rw [m2] at hp
        exact postN_new hp s hq (rpL_unzip fun z hz2 => hz z (mem_sort hz2))
    · exact hp.elim
  · exact hp.elim
section
variable {M : Fr} {W : WX} {X : Cx} {k : Nat} {e : Expr} {es : List Expr} {pos : Pos}
theorem pn_callB {x : Str} {id : String} {p : Pos} {r : List V → Hp → VK → Prop} {gf : List D → Res (List D)} {fs : Ev → Res (List D × Ev)} (hc : CallR X (.builtin id) r) (hT : CallN M W r gf) (hm : X.mg x = none) (hv : bootBuiltins x = some (.builtin id)) (ha : PA' M W X (e :: es) fs)
    (hg : Gl X x := by rfl) (hn : x ≠ "__name__" := by decide) (hdb : (x == ("__debug__" : Str)) = false := by decide)
    (he : starEach (e :: es) X.env = (false, eval e X.env) :: starEach es X.env := by rfl) (hpl : (backTo pos (starEach es X.env)).any (·.1) = false := by rfl) : PN M W X (.Call (.Name x p) (e :: es) [] pos) (eCN gf fs) := by
  obtain ⟨⟨t, et, qt⟩, _⟩ := ha
  exact ⟨_, pe_callB hc hg hm hv et hn hdb he hpl, tr_cn hT qt⟩
theorem pn_sorted (c : CO M W k X) {p : Pos} {fs} (hm : X.mg "sorted" = none) (ha : PA' M W X [e] fs) (hg : Gl X "sorted" := by rfl) (he : starEach [e] X.env = (false, eval e X.env) :: starEach [] X.env := by rfl) : PN M W X (.Call (.Name "sorted" p) [e] [] pos) (eCN fSorted fs) :=
  pn_callB (by rw [← c.hK]; exact cr_sortD c.hr.units) cn_sorted hm (by decide +kernel) ha hg (by decide) (by decide) he rfl
end
end PL
/-! PL, part zb: a slice of a list that is still the def's own. -/
namespace PL
open PySem PySem.Spec PyProof.Rows L2
@[simp] def dSlL : D → Option Int → Option Int → Res D
  | .lst ds, lo, hi => .ok (.lst (cutD ds lo hi))
  | _, _, _ => .stuck
@[reducible, simp] def eSlV (i : Nat) (fl fh : Ev → Res (Option Int × Ev)) : Ev → Res (D × Ev) := fun ε =>
  (getAny ε i).bind fun _ => (fl ε).bind fun q => (fh q.2).bind fun w => (getAny w.2 i).bind fun x => (dSlL x q.1 w.1).bind fun d => .ok (d, w.2)
section
variable {M : Fr} {W : WX} {X : Cx} {k : Nat}
theorem getAny_ne {ε : Ev} {i : Nat} {cc : Nat} (e : getAny ε i = .err cc) : False := by
  simp only [getAny] at e
  split at e <;> cases e
theorem tr_slV {i : Nat} {tl th : TO} {fl fh : Ev → Res (Option Int × Ev)} (hl : Tr M W RO tl fl) (hh : Tr M W RO th fh) : Tr M W (Rp M.F) (tSl (rSlAll M.F.K) (tVar i) tl th) (eSlV i fl fh) := by
  intro σ G H ε s Q hp
  simp only [eSlV] at hp
  cases e0 : getAny ε i with
  | stuck => rw [e0] at hp; exact hp.elim
  | err c => exact (getAny_ne e0).elim
  | ok x0 =>
    rw [e0] at hp
    obtain ⟨v, ev, _⟩ := s.any e0
    refine ⟨v, ev, hl σ G H ε s _ ?_⟩
    simp only [Res.bind_ok] at hp
    cases e1 : fl ε with
    | stuck => rw [e1] at hp; exact hp
    | err c => rw [e1] at hp; exact hp
    | ok q =>
      rw [e1] at hp
      intro lo G1 H1 s1 st1 rl
      simp only [RO] at rl
      subst rl
      refine hh σ G1 H1 q.2 s1 _ ?_
      simp only [Res.bind_ok] at hp
      have hp1 := hp.shift s1 st1
      cases e2 : fh q.2 with
      | stuck => rw [e2] at hp1; exact hp1
      | err c => rw [e2] at hp1; exact hp1
      | ok w =>
        rw [e2] at hp1
        intro hi G2 H2 s2 st2 rh
        simp only [RO] at rh
        subst rh
        simp only [Res.bind_ok] at hp1
        have hp2 := hp1.shift s2 st2
        cases e3 : getAny w.2 i with
        | stuck => rw [e3] at hp2; exact hp2.elim
        | err c => exact (getAny_ne e3).elim
        | ok x =>
          rw [e3] at hp2
          obtain ⟨v', ev', rx⟩ := s2.any e3
          rw [ev] at ev'
          cases ev'
          simp only [Res.bind_ok] at hp2
          cases x with
          | lst ds =>
            obtain ⟨a, vs, rfl, ha, l⟩ := rx
            refine .inl ⟨a, vs, rfl, SqL.of ha, fun p hn => ?_⟩
            exact post_new hp2 s2 hn (fun ps z => by cases z) (rp_lst.mpr ⟨p, _, rfl, upd_same, (l.cut q.1 w.1).mono (up_mono (s2.gnone hn))⟩)
          | _ => exact hp2.elim
theorem pv_slV (c : CO M W k X) (i : Nat) {x : Str} {px p2 pos : Pos} {lo hi : Option Expr} {fl fh : Ev → Res (Option Int × Ev)} (hl : PO' M W X lo fl) (hh : PO' M W X hi fh) (hN : X.N[i]? = some x := by rfl)
    (hv : Vis X.env.scope x := by first | exact Or.inl rfl | exact Or.inr (Or.inl rfl) | exact Or.inr (Or.inr rfl)) (hd : (x == ("__debug__" : Str)) = false := by decide) (hcd : (x == ("__classdict__" : Str)) = false := by decide) :
    PV M W X (.Subscript (.Name x px) (.Slice lo hi none p2) pos) (eSlV i fl fh) := by
  obtain ⟨tl, el, ql⟩ := hl
  obtain ⟨th, eh, qh⟩ := hh
  exact ⟨_, pe_slice (r := rSlAll M.F.K) (by rw [← c.hK]; exact sl_all) (pe_var hN hv hd hcd) el eh, tr_slV ql qh⟩
end
end PL
namespace W41
open PySem L2 PL
@[reducible] def b_is_whole : Ev → Out := (sRet (eAnd (eUn (fun d => fIsi "int" [d]) (eV 0)) (eAnd (eNot (eUn (fun d => fIsi "bool" [d]) (eV 0))) (eCh2 dLe dLe (eV 1) (eV 0) (eV 2)))))
def g_is_whole (ds : List D) : Res D := outRes (b_is_whole (startE 3 ds))
@[reducible] def b_need_whole : Ev → Out := (sIf (bNot (bOf (eCB g_is_whole (aCons (eV 0) (aCons (eV 1) (aCons (eV 2) aNil)))))) (fun _ => .err 0) (fun ε => .nx ε))
def g_need_whole (ds : List D) : Res D := outRes (b_need_whole (startE 3 ds))
@[reducible] def b_is_tuple_of : Ev → Out := (sRet (eAnd (eUn (fun d => fIsi "tuple" [d]) (eV 0)) (eCh2 dLe dLe (eV 1) (eCB fLen (aCons (eV 0) aNil)) (eV 2))))
def g_is_tuple_of (ds : List D) : Res D := outRes (b_is_tuple_of (startE 3 ds))
@[reducible] def b_is_portion : Ev → Out := (sSeq (sIf (bOr (bNot (bOf (eCB g_is_tuple_of (aCons (eV 0) (aCons (eC (.int 2)) (aCons (eC (.int 2)) aNil)))))) (bOr (bNot (bOf (eCB g_is_whole (aCons (eOp dIx (eV 0) (eC (.int 0))) (aCons (eUn dNeg (eC (.int 1000000000000000000000000000000000000000000000000000000000000))) (aCons (eC (.int 1000000000000000000000000000000000000000000000000000000000000)) aNil)))))) (bNot (bOf (eCB g_is_whole (aCons (eOp dIx (eV 0) (eC (.int 1))) (aCons (eC (.int 1)) (aCons (eC (.int 1000000000000000000000000000000000000000000000000000000000000)) aNil)))))))) (sRet (eC (.bl false))) (fun ε => .nx ε))
    (sRet (eOp dEq (eCB fGcd (aCons (eOp dIx (eV 0) (eC (.int 0))) (aCons (eOp dIx (eV 0) (eC (.int 1))) aNil))) (eC (.int 1)))))
def g_is_portion (ds : List D) : Res D := outRes (b_is_portion (startE 1 ds))
@[reducible] def b_lowest : Ev → Out := (sSeq (sTg (tName 2) (eCB fGcd (aCons (eV 0) (aCons (eV 1) aNil))))
    (sSeq (sTg (tName 2) (eIf (bOf (eOp dGt (eV 1) (eC (.int 0)))) (eV 2) (eUn dNeg (eV 2))))
    (sRet (eTup (aCons (eOp dDiv (eV 0) (eV 2)) (aCons (eOp dDiv (eV 1) (eV 2)) aNil))))))
def g_lowest (ds : List D) : Res D := outRes (b_lowest (startE 3 ds))
@[reducible] def b_plus : Ev → Out := (sRet (eCB g_lowest (aCons (eOp dAdd (eOp dMul (eOp dIx (eV 0) (eC (.int 0))) (eOp dIx (eV 1) (eC (.int 1)))) (eOp dMul (eOp dIx (eV 1) (eC (.int 0))) (eOp dIx (eV 0) (eC (.int 1))))) (aCons (eOp dMul (eOp dIx (eV 0) (eC (.int 1))) (eOp dIx (eV 1) (eC (.int 1)))) aNil))))
def g_plus (ds : List D) : Res D := outRes (b_plus (startE 2 ds))
@[reducible] def b_times : Ev → Out := (sRet (eCB g_lowest (aCons (eOp dMul (eOp dIx (eV 0) (eC (.int 0))) (eOp dIx (eV 1) (eC (.int 0)))) (aCons (eOp dMul (eOp dIx (eV 0) (eC (.int 1))) (eOp dIx (eV 1) (eC (.int 1)))) aNil))))
def g_times (ds : List D) : Res D := outRes (b_times (startE 2 ds))
@[reducible] def b_is_chance : Ev → Out := (sRet (eAnd (eCB g_is_portion (aCons (eV 0) aNil)) (eCh3 dLe dLe dLe (eC (.int 0)) (eOp dIx (eV 0) (eC (.int 0))) (eOp dIx (eV 0) (eC (.int 1))) (eC (.int 1000)))))
def g_is_chance (ds : List D) : Res D := outRes (b_is_chance (startE 1 ds))
@[reducible, simp] def CS1_need_parts (ε : Ev) : Res (List D × Ev) := (iSeq (eV 0)) ε
@[reducible, simp] def CT1_need_parts (d : D) (ε : Ev) : Res Ev := (tName 1) d ε
@[reducible, simp] def CP1_need_parts (ε : Ev) : Res (Bool × Ev) := (fun ε => .ok (true, ε)) ε
@[reducible, simp] def CE1_need_parts (ε : Ev) : Res (D × Ev) := (eCB g_is_chance (aCons (eV 1) aNil)) ε
@[reducible] def b_need_parts : Ev → Out := (sIf (bOr (bNot (bOf (eCB g_is_tuple_of (aCons (eV 0) (aCons (eC (.int 0)) (aCons (eC (.int 12)) aNil)))))) (bNot (bOf (eCB fAll (aCons (eL (eComp [1] CS1_need_parts CT1_need_parts CP1_need_parts CE1_need_parts)) aNil))))) (fun _ => .err 1) (fun ε => .nx ε))
def g_need_parts (ds : List D) : Res D := outRes (b_need_parts (startE 2 ds))
@[reducible] def b_rest_of : Ev → Out := (sRet (eTup (aCons (eOp dSub (eOp dIx (eV 0) (eC (.int 1))) (eOp dIx (eV 0) (eC (.int 0)))) (aCons (eOp dIx (eV 0) (eC (.int 1))) aNil))))
def g_rest_of (ds : List D) : Res D := outRes (b_rest_of (startE 1 ds))
@[reducible, simp] def CS1_is_polynomial (ε : Ev) : Res (List D × Ev) := (iSeq (eV 0)) ε
@[reducible, simp] def CT1_is_polynomial (d : D) (ε : Ev) : Res Ev := (tName 1) d ε
@[reducible, simp] def CP1_is_polynomial (ε : Ev) : Res (Bool × Ev) := (fun ε => .ok (true, ε)) ε
@[reducible, simp] def CE1_is_polynomial (ε : Ev) : Res (D × Ev) := (eCB g_is_whole (aCons (eV 1) (aCons (eUn dNeg (eC (.int 1000000000000000000000000000000))) (aCons (eC (.int 1000000000000000000000000000000)) aNil)))) ε
@[reducible] def b_is_polynomial : Ev → Out := (sSeq (sIf (bOr (bNot (bOf (eCB g_is_tuple_of (aCons (eV 0) (aCons (eC (.int 0)) (aCons (eC (.int 41)) aNil)))))) (bNot (bOf (eCB fAll (aCons (eL (eComp [1] CS1_is_polynomial CT1_is_polynomial CP1_is_polynomial CE1_is_polynomial)) aNil))))) (sRet (eC (.bl false))) (fun ε => .nx ε))
    (sRet (eOr (eOp dEq (eV 0) (eTup aNil)) (eOp dNe (eOp dIx (eV 0) (eUn dNeg (eC (.int 1)))) (eC (.int 0))))))
def g_is_polynomial (ds : List D) : Res D := outRes (b_is_polynomial (startE 2 ds))
@[reducible] def b_need_polynomial : Ev → Out := (sIf (bNot (bOf (eCB g_is_polynomial (aCons (eV 0) aNil)))) (fun _ => .err 2) (fun ε => .nx ε))
def g_need_polynomial (ds : List D) : Res D := outRes (b_need_polynomial (startE 1 ds))
@[reducible, simp] def WC1_cut (ε : Ev) : Res (Bool × Ev) := (bAnd (bOf (eOp dGt (eV 1) (eC (.int 0)))) (bOf (eOp dEq (eOp dIx (eV 0) (eOp dSub (eV 1) (eC (.int 1)))) (eC (.int 0))))) ε
@[reducible, simp] def WB1_cut (ε : Ev) : Out := (sTg (tName 1) (eOp dSub (eV 1) (eC (.int 1)))) ε
@[reducible] def b_cut : Ev → Out := (sSeq (sTg (tName 1) (eCB fLen (aCons (eV 0) aNil)))
    (sSeq (whileF WC1_cut WB1_cut 1000000)
    (sRet (eCB fTuple (aCons (eSl (eV 0) oN (oS (eV 1))) aNil)))))
def g_cut (ds : List D) : Res D := outRes (b_cut (startE 2 ds))
@[reducible, simp] def CS1_add (ε : Ev) : Res (List D × Ev) := (iCall fZip (aCons (eV 3) (aCons (eV 4) aNil))) ε
@[reducible, simp] def CT1_add (d : D) (ε : Ev) : Res Ev := (tTupD (tsCons (tName 5) (tsCons (tName 6) tsNil))) d ε
@[reducible, simp] def CP1_add (ε : Ev) : Res (Bool × Ev) := (fun ε => .ok (true, ε)) ε
@[reducible, simp] def CE1_add (ε : Ev) : Res (D × Ev) := (eOp dAdd (eV 5) (eV 6)) ε
@[reducible] def b_add : Ev → Out := (sSeq (sTg (tName 2) (eCB fMax2 (aCons (eCB fLen (aCons (eV 0) aNil)) (aCons (eCB fLen (aCons (eV 1) aNil)) aNil))))
    (sSeq (sPar2 3 4 (slP (eOp dAdd (eL (eCN fList (aCons (eV 0) aNil))) (eOp dMul (eL (aCons (eC (.int 0)) aNil)) (eOp dSub (eV 2) (eCB fLen (aCons (eV 0) aNil)))))) (slP (eOp dAdd (eL (eCN fList (aCons (eV 1) aNil))) (eOp dMul (eL (aCons (eC (.int 0)) aNil)) (eOp dSub (eV 2) (eCB fLen (aCons (eV 1) aNil)))))))
    (sRet (eCB g_cut (aCons (eL (eComp [5, 6] CS1_add CT1_add CP1_add CE1_add)) aNil)))))
def g_add (ds : List D) : Res D := outRes (b_add (startE 7 ds))
@[reducible, simp] def S1_multiply (ε : Ev) : Res (List D × Ev) := (iCall fEnum (aCons (eV 1) aNil)) ε
@[reducible, simp] def T1_multiply (d : D) (ε : Ev) : Res Ev := (tTupD (tsCons (tName 5) (tsCons (tName 6) tsNil))) d ε
@[reducible, simp] def B1_multiply (ε : Ev) : Out := (sSetIx 2 (eOp dAdd (eOpV dIx 2 (eOp dAdd (eV 3) (eV 5))) (eOp dMul (eV 4) (eV 6))) (eOp dAdd (eV 3) (eV 5))) ε
@[reducible, simp] def S2_multiply (ε : Ev) : Res (List D × Ev) := (iCall fEnum (aCons (eV 0) aNil)) ε
@[reducible, simp] def T2_multiply (d : D) (ε : Ev) : Res Ev := (tTupD (tsCons (tName 3) (tsCons (tName 4) tsNil))) d ε
@[reducible, simp] def B2_multiply (ε : Ev) : Out := (sFor S1_multiply T1_multiply B1_multiply) ε
@[reducible] def b_multiply : Ev → Out := (sSeq (sOwn 2 (eOpN dRep (eL (aCons (eC (.int 0)) aNil)) (eCB fMax2 (aCons (eOp dSub (eOp dAdd (eCB fLen (aCons (eV 0) aNil)) (eCB fLen (aCons (eV 1) aNil))) (eC (.int 1))) (aCons (eC (.int 0)) aNil)))))
    (sSeq (sFor S2_multiply T2_multiply B2_multiply)
    (sRet (eCB g_cut (aCons (eZ 2) aNil)))))
def g_multiply (ds : List D) : Res D := outRes (b_multiply (startE 7 ds))
@[reducible, simp] def S1_value_at (ε : Ev) : Res (List D × Ev) := (iSeq (eBack (eV 0) oN oN)) ε
@[reducible, simp] def T1_value_at (d : D) (ε : Ev) : Res Ev := (tName 4) d ε
@[reducible, simp] def B1_value_at (ε : Ev) : Out := (sPar2 2 3 (slP (eOp dAdd (eOp dMul (eV 2) (eOp dIx (eV 1) (eC (.int 0)))) (eOp dMul (eOp dMul (eV 4) (eV 3)) (eOp dIx (eV 1) (eC (.int 1)))))) (slP (eOp dMul (eV 3) (eOp dIx (eV 1) (eC (.int 1)))))) ε
@[reducible] def b_value_at : Ev → Out := (sSeq (sDrop (eCB g_need_polynomial (aCons (eV 0) aNil)))
    (sSeq (sIf (bNot (bOf (eCB g_is_portion (aCons (eV 1) aNil)))) (fun _ => .err 3) (fun ε => .nx ε))
    (sSeq (sTg (tTupD (tsCons (tName 2) (tsCons (tName 3) tsNil))) (eTup (aCons (eC (.int 0)) (aCons (eC (.int 1)) aNil))))
    (sSeq (sFor S1_value_at T1_value_at B1_value_at)
    (sRet (eCB g_lowest (aCons (eV 2) (aCons (eV 3) aNil))))))))
def g_value_at (ds : List D) : Res D := outRes (b_value_at (startE 5 ds))
@[reducible, simp] def S1_steps_in (ε : Ev) : Res (List D × Ev) := (iSeq (eV 1)) ε
@[reducible, simp] def T1_steps_in (d : D) (ε : Ev) : Res Ev := (tName 4) d ε
@[reducible, simp] def B1_steps_in (ε : Ev) : Out := (sTg (tName 3) (eCB g_plus (aCons (eV 3) (aCons (eV 4) aNil)))) ε
@[reducible, simp] def CS1_steps_in (ε : Ev) : Res (List D × Ev) := (iSeq (eSl (eV 1) oN (oS (eUn dNeg (eC (.int 1)))))) ε
@[reducible, simp] def CT1_steps_in (d : D) (ε : Ev) : Res Ev := (tName 4) d ε
@[reducible, simp] def CP1_steps_in (ε : Ev) : Res (Bool × Ev) := (fun ε => .ok (true, ε)) ε
@[reducible, simp] def CE1_steps_in (ε : Ev) : Res (D × Ev) := (eCB g_times (aCons (eV 4) (aCons (eCB g_rest_of (aCons (eV 2) aNil)) aNil))) ε
@[reducible, simp] def S2_steps_in (ε : Ev) : Res (List D × Ev) := (iSeq (eV 0)) ε
@[reducible, simp] def T2_steps_in (d : D) (ε : Ev) : Res Ev := (tName 2) d ε
@[reducible, simp] def B2_steps_in (ε : Ev) : Out := (sSeq (sTg (tName 3) (eTup (aCons (eC (.int 0)) (aCons (eC (.int 1)) aNil))))
    (sSeq (sFor S1_steps_in T1_steps_in B1_steps_in)
    (sTg (tName 1) (eOp dAdd (eL (aCons (eCB g_times (aCons (eV 3) (aCons (eV 2) aNil))) aNil)) (eL (eComp [4] CS1_steps_in CT1_steps_in CP1_steps_in CE1_steps_in)))))) ε
@[reducible] def b_steps_in : Ev → Out := (sSeq (sFor S2_steps_in T2_steps_in B2_steps_in)
    (sRet (eV 1)))
def g_steps_in (ds : List D) : Res D := outRes (b_steps_in (startE 5 ds))
@[reducible, simp] def S1_sum_of (ε : Ev) : Res (List D × Ev) := (iSeq (eV 0)) ε
@[reducible, simp] def T1_sum_of (d : D) (ε : Ev) : Res Ev := (tName 2) d ε
@[reducible, simp] def B1_sum_of (ε : Ev) : Out := (sTg (tName 1) (eCB g_plus (aCons (eV 1) (aCons (eV 2) aNil)))) ε
@[reducible] def b_sum_of : Ev → Out := (sSeq (sTg (tName 1) (eTup (aCons (eC (.int 0)) (aCons (eC (.int 1)) aNil))))
    (sSeq (sFor S1_sum_of T1_sum_of B1_sum_of)
    (sRet (eV 1))))
def g_sum_of (ds : List D) : Res D := outRes (b_sum_of (startE 3 ds))
@[reducible] def b_row_in : Ev → Out := (sRet (eCB g_sum_of (aCons (eCB g_steps_in (aCons (eV 0) (aCons (eOp dAdd (eL (aCons (eTup (aCons (eC (.int 1)) (aCons (eC (.int 1)) aNil))) aNil)) (eOp dMul (eL (aCons (eTup (aCons (eC (.int 0)) (aCons (eC (.int 1)) aNil))) aNil)) (eOp dSub (eV 1) (eC (.int 1))))) aNil))) aNil)))
def g_row_in (ds : List D) : Res D := outRes (b_row_in (startE 2 ds))
@[reducible, simp] def S1_ring_in (ε : Ev) : Res (List D × Ev) := (iCall fRange (aCons (eV 1) aNil)) ε
@[reducible, simp] def T1_ring_in (d : D) (ε : Ev) : Res Ev := (tName 4) d ε
@[reducible, simp] def B1_ring_in (ε : Ev) : Out := (sSeq (sTg (tName 5) (eCB g_times (aCons (eV 3) (aCons (eOp dIx (eV 0) (eV 4)) aNil))))
    (sSeq (sTg (tName 6) (eCB g_steps_in (aCons (eSl (eV 0) (oS (eOp dAdd (eV 4) (eC (.int 1)))) oN) (aCons (eOp dAdd (eL (aCons (eV 5) aNil)) (eOp dMul (eL (aCons (eTup (aCons (eC (.int 0)) (aCons (eC (.int 1)) aNil))) aNil)) (eOp dSub (eV 1) (eC (.int 1))))) aNil))))
    (sSeq (sTg (tName 2) (eCB g_plus (aCons (eV 2) (aCons (eCB g_sum_of (aCons (eSl (eV 6) oN (oS (eOp dSub (eV 1) (eV 4)))) aNil)) aNil))))
    (sTg (tName 3) (eCB g_times (aCons (eV 3) (aCons (eCB g_rest_of (aCons (eOp dIx (eV 0) (eV 4)) aNil)) aNil))))))) ε
@[reducible] def b_ring_in : Ev → Out := (sSeq (sIf (bOf (eOp dGt (eV 1) (eCB fLen (aCons (eV 0) aNil)))) (sRet (eTup (aCons (eC (.int 1)) (aCons (eC (.int 1)) aNil)))) (fun ε => .nx ε))
    (sSeq (sTg (tTupD (tsCons (tName 2) (tsCons (tName 3) tsNil))) (eTup (aCons (eTup (aCons (eC (.int 0)) (aCons (eC (.int 1)) aNil))) (aCons (eTup (aCons (eC (.int 1)) (aCons (eC (.int 1)) aNil))) aNil))))
    (sSeq (sFor S1_ring_in T1_ring_in B1_ring_in)
    (sRet (eV 2)))))
def g_ring_in (ds : List D) : Res D := outRes (b_ring_in (startE 7 ds))
@[reducible, simp] def S1_rows_in (ε : Ev) : Res (List D × Ev) := (iCall fRange (aCons (eOp dAdd (eV 0) (eC (.int 1))) aNil)) ε
@[reducible, simp] def T1_rows_in (d : D) (ε : Ev) : Res Ev := (tName 3) d ε
@[reducible, simp] def B1_rows_in (ε : Ev) : Out := (sAppend 2 (eIf (bOf (eOp dGe (eV 3) (eV 1))) (eCB fSum (aCons (eSlV 2 (oS (eOp dSub (eV 3) (eV 1))) oN) aNil)) (eOp dShl (eC (.int 1)) (eV 3)))) ε
@[reducible] def b_rows_in : Ev → Out := (sSeq (sOwn 2 aNil)
    (sSeq (sFor S1_rows_in T1_rows_in B1_rows_in)
    (sRet (eZ 2))))
def g_rows_in (ds : List D) : Res D := outRes (b_rows_in (startE 4 ds))
@[reducible, simp] def S1_rings_in (ε : Ev) : Res (List D × Ev) := (iCall fRange (aCons (eOp dSub (eV 1) (eV 4)) aNil)) ε
@[reducible, simp] def T1_rings_in (d : D) (ε : Ev) : Res Ev := (tName 5) d ε
@[reducible, simp] def B1_rings_in (ε : Ev) : Out := (sSeq (sTg (tName 6) (eOp dSub (eOp dSub (eOp dSub (eV 0) (eV 4)) (eV 5)) (eC (.int 2))))
    (sIf (bOf (eOp dGe (eV 6) (eC (.int 0)))) (sTg (tName 3) (eOp dAdd (eV 3) (eOp dIx (eV 2) (eV 6)))) (sIf (bOf (eOp dEq (eV 6) (eUn dNeg (eC (.int 1))))) (sTg (tName 3) (eOp dAdd (eV 3) (eC (.int 1)))) (fun ε => .nx ε)))) ε
@[reducible, simp] def S2_rings_in (ε : Ev) : Res (List D × Ev) := (iCall fRange (aCons (eV 1) aNil)) ε
@[reducible, simp] def T2_rings_in (d : D) (ε : Ev) : Res Ev := (tName 4) d ε
@[reducible, simp] def B2_rings_in (ε : Ev) : Out := (sFor S1_rings_in T1_rings_in B1_rings_in) ε
@[reducible] def b_rings_in : Ev → Out := (sSeq (sIf (bOf (eOp dGt (eV 1) (eV 0))) (sRet (eOp dShl (eC (.int 1)) (eV 0))) (fun ε => .nx ε))
    (sSeq (sPar2 2 3 (slP (eCB g_rows_in (aCons (eV 0) (aCons (eV 1) aNil)))) (slP (eC (.int 0))))
    (sSeq (sFor S2_rings_in T2_rings_in B2_rings_in)
    (sRet (eV 3)))))
def g_rings_in (ds : List D) : Res D := outRes (b_rings_in (startE 7 ds))
@[reducible] def b_need_run : Ev → Out := (sDrop (eCB g_need_whole (aCons (eV 0) (aCons (eC (.int 1)) (aCons (eC (.int 12)) aNil)))))
def g_need_run (ds : List D) : Res D := outRes (b_need_run (startE 1 ds))
@[reducible] def b_row_without : Ev → Out := (sSeq (sDrop (eCB g_need_parts (aCons (eV 0) aNil)))
    (sSeq (sDrop (eCB g_need_run (aCons (eV 1) aNil)))
    (sRet (eCB g_row_in (aCons (eV 0) (aCons (eV 1) aNil))))))
def g_row_without (ds : List D) : Res D := outRes (b_row_without (startE 2 ds))
@[reducible] def b_ring_without : Ev → Out := (sSeq (sDrop (eCB g_need_parts (aCons (eV 0) aNil)))
    (sSeq (sDrop (eCB g_need_run (aCons (eV 1) aNil)))
    (sRet (eCB g_ring_in (aCons (eV 0) (aCons (eV 1) aNil))))))
def g_ring_without (ds : List D) : Res D := outRes (b_ring_without (startE 2 ds))
@[reducible] def b_count_rows : Ev → Out := (sSeq (sDrop (eCB g_need_whole (aCons (eV 0) (aCons (eC (.int 0)) (aCons (eC (.int 40)) aNil)))))
    (sSeq (sDrop (eCB g_need_run (aCons (eV 1) aNil)))
    (sRet (eOp dIx (eCB g_rows_in (aCons (eV 0) (aCons (eV 1) aNil))) (eV 0)))))
def g_count_rows (ds : List D) : Res D := outRes (b_count_rows (startE 2 ds))
@[reducible] def b_count_rings : Ev → Out := (sSeq (sDrop (eCB g_need_whole (aCons (eV 0) (aCons (eC (.int 0)) (aCons (eC (.int 40)) aNil)))))
    (sSeq (sDrop (eCB g_need_run (aCons (eV 1) aNil)))
    (sRet (eCB g_rings_in (aCons (eV 0) (aCons (eV 1) aNil))))))
def g_count_rings (ds : List D) : Res D := outRes (b_count_rings (startE 2 ds))
@[reducible, simp] def S1_run_polynomial (ε : Ev) : Res (List D × Ev) := (iSeq (eV 2)) ε
@[reducible, simp] def T1_run_polynomial (d : D) (ε : Ev) : Res Ev := (tName 5) d ε
@[reducible, simp] def B1_run_polynomial (ε : Ev) : Out := (sTg (tName 4) (eCB g_add (aCons (eV 4) (aCons (eV 5) aNil)))) ε
@[reducible, simp] def CS1_run_polynomial (ε : Ev) : Res (List D × Ev) := (iSeq (eSl (eV 2) oN (oS (eUn dNeg (eC (.int 1)))))) ε
@[reducible, simp] def CT1_run_polynomial (d : D) (ε : Ev) : Res Ev := (tName 5) d ε
@[reducible, simp] def CP1_run_polynomial (ε : Ev) : Res (Bool × Ev) := (fun ε => .ok (true, ε)) ε
@[reducible, simp] def CE1_run_polynomial (ε : Ev) : Res (D × Ev) := (eCB g_multiply (aCons (eV 5) (aCons (eTup (aCons (eC (.int 1)) (aCons (eUn dNeg (eC (.int 1))) aNil))) aNil))) ε
@[reducible, simp] def S2_run_polynomial (ε : Ev) : Res (List D × Ev) := (iCall fRange (aCons (eV 0) aNil)) ε
@[reducible, simp] def T2_run_polynomial (d : D) (ε : Ev) : Res Ev := (tName 3) d ε
@[reducible, simp] def B2_run_polynomial (ε : Ev) : Out := (sSeq (sTg (tName 4) (eTup aNil))
    (sSeq (sFor S1_run_polynomial T1_run_polynomial B1_run_polynomial)
    (sTg (tName 2) (eOp dAdd (eL (aCons (eCB g_multiply (aCons (eV 4) (aCons (eTup (aCons (eC (.int 0)) (aCons (eC (.int 1)) aNil))) aNil))) aNil)) (eL (eComp [5] CS1_run_polynomial CT1_run_polynomial CP1_run_polynomial CE1_run_polynomial)))))) ε
@[reducible, simp] def S3_run_polynomial (ε : Ev) : Res (List D × Ev) := (iSeq (eV 2)) ε
@[reducible, simp] def T3_run_polynomial (d : D) (ε : Ev) : Res Ev := (tName 5) d ε
@[reducible, simp] def B3_run_polynomial (ε : Ev) : Out := (sTg (tName 6) (eCB g_add (aCons (eV 6) (aCons (eV 5) aNil)))) ε
@[reducible] def b_run_polynomial : Ev → Out := (sSeq (sDrop (eCB g_need_whole (aCons (eV 0) (aCons (eC (.int 0)) (aCons (eC (.int 30)) aNil)))))
    (sSeq (sDrop (eCB g_need_run (aCons (eV 1) aNil)))
    (sSeq (sTg (tName 2) (eOp dAdd (eL (aCons (eTup (aCons (eC (.int 1)) aNil)) aNil)) (eOp dMul (eL (aCons (eTup aNil) aNil)) (eOp dSub (eV 1) (eC (.int 1))))))
    (sSeq (sFor S2_run_polynomial T2_run_polynomial B2_run_polynomial)
    (sSeq (sTg (tName 6) (eTup aNil))
    (sSeq (sFor S3_run_polynomial T3_run_polynomial B3_run_polynomial)
    (sRet (eV 6))))))))
def g_run_polynomial (ds : List D) : Res D := outRes (b_run_polynomial (startE 7 ds))
@[reducible] def b1__law_cup : Ev → Out := (sTg (tName 1) (eCB fAbs (aCons (eOp dIx (eOp dAdd (eL (eCN fList (aCons (eV 0) aNil))) (eL (aCons (eC (.int 0)) aNil))) (eC (.int 0))) aNil)))
@[reducible] def b2__law_cup : Ev → Res (List D × Ev) := (aCons (eIf (bOf (eOp dGe (eV 1) (eOp dPow (eC (.int 10)) (eC (.int 18))))) (eOp dDiv (eV 1) (eC (.int 223))) (eC (.int 0))) (aCons (eOp dAdd (eOp dMod (eCB fInt (aCons (eOp dAdd (eOp dMul (eV 1) (eC (.int 467))) (eC (.int 7151))) aNil)) (eC (.int 99901))) (eC (.int 331))) aNil))
def g__law_cup (ds : List D) : Res (List D) := match b1__law_cup (startE 2 ds) with
  | .nx ε => (b2__law_cup ε).bind fun p => .ok p.1
  | _ => .stuck
@[reducible] def b__law_roll : Ev → Out := (sSeq (sIf (bOf (eOp dGt (eOpV dIx 0 (eC (.int 0))) (eC (.int 0)))) (sSeq (sTg (tName 2) (eOp dMod (eCB fInt (aCons (eOpV dIx 0 (eC (.int 0))) aNil)) (eV 1)))
    (sSeq (sSetIx 0 (eOp dDiv (eOpV dIx 0 (eC (.int 0))) (eV 1)) (eC (.int 0)))
    (sRet (eV 2)))) (fun ε => .nx ε))
    (sSeq (sSetIx 0 (eOp dMod (eCB fInt (aCons (eOp dAdd (eOp dMul (eOpV dIx 0 (eC (.int 1))) (eC (.int 103))) (eC (.int 1823))) aNil)) (eC (.int 99901))) (eC (.int 1)))
    (sRet (eOp dMod (eCB fInt (aCons (eOp dDiv (eOpV dIx 0 (eC (.int 1))) (eC (.int 23))) aNil)) (eV 1)))))
def g__law_roll (cs ds : List D) : Res (D × List D) := outC (b__law_roll (startC 3 cs ds))
@[reducible] def b__law_sort : Ev → Out := (sSeq (sIf (bOr (bOf (eOp dIsN (eV 0) (eC .non))) (bOf (eUn (fun d => fIsi "bool" [d]) (eV 0)))) (sRet (eIf (bOf (eOp dIsN (eV 0) (eC .non))) (eC (.int 0)) (eC (.int 1)))) (fun ε => .nx ε))
    (sSeq (sIf (bOr (bOf (eUn (fun d => fIsi "int" [d]) (eV 0))) (bOf (eUn (fun d => fIsi "str" [d]) (eV 0)))) (sRet (eIf (bOf (eUn (fun d => fIsi "int" [d]) (eV 0))) (eC (.int 2)) (eC (.int 3)))) (fun ε => .nx ε))
    (sRet (eIf (bOf (eUn (fun d => fIsi "tuple" [d]) (eV 0))) (eC (.int 4)) (eIf (bOf (eUn (fun d => fIsi "list" [d]) (eV 0))) (eC (.int 5)) (eC (.int 6)))))))
def g__law_sort (ds : List D) : Res D := outRes (b__law_sort (startE 1 ds))
@[reducible, simp] def CS1__law_like (rec : List D → Res D) (ε : Ev) : Res (List D × Ev) := (iCall fZip (aCons (eV 0) (aCons (eV 1) aNil))) ε
@[reducible, simp] def CT1__law_like (rec : List D → Res D) (d : D) (ε : Ev) : Res Ev := (tTupD (tsCons (tName 3) (tsCons (tName 4) tsNil))) d ε
@[reducible, simp] def CP1__law_like (rec : List D → Res D) (ε : Ev) : Res (Bool × Ev) := (bNot (bOf (eCB rec (aCons (eV 3) (aCons (eV 4) aNil))))) ε
@[reducible, simp] def CE1__law_like (rec : List D → Res D) (ε : Ev) : Res (D × Ev) := (eC (.int 1)) ε
@[reducible] def b__law_like (rec : List D → Res D) : Ev → Out := (sSeq (sTg (tName 2) (eCB g__law_sort (aCons (eV 1) aNil)))
    (sSeq (sIf (bOr (bOf (eOp dNe (eCB g__law_sort (aCons (eV 0) aNil)) (eV 2))) (bOf (eOp dEq (eV 2) (eC (.int 6))))) (sRet (eC (.bl false))) (fun ε => .nx ε))
    (sSeq (sIf (bOf (eOp (dIn false) (eV 2) (eTup (aCons (eC (.int 4)) (aCons (eC (.int 5)) aNil))))) (sRet (eAnd (eOp dEq (eCB fLen (aCons (eV 0) aNil)) (eCB fLen (aCons (eV 1) aNil))) (eOp dEq (eL (eComp [3, 4] (CS1__law_like rec) (CT1__law_like rec) (CP1__law_like rec) (CE1__law_like rec))) (eL aNil)))) (fun ε => .nx ε))
    (sRet (eOp dEq (eV 0) (eV 1))))))
def g__law_like : Nat → List D → Res D := recG 5 b__law_like
@[reducible, simp] def S1__law_divisor (ε : Ev) : Res (List D × Ev) := (iCall fRange (aCons (eC (.int 9000)) aNil)) ε
@[reducible, simp] def T1__law_divisor (d : D) (ε : Ev) : Res Ev := (tName 2) d ε
@[reducible, simp] def B1__law_divisor (ε : Ev) : Out := (sSeq (sIf (bOf (eOp dEq (eV 1) (eC (.int 0)))) (sRet (eV 0)) (fun ε => .nx ε))
    (sPar2 0 1 (slP (eV 1)) (slP (eOp dMod (eCB fInt (aCons (eV 0) aNil)) (eV 1))))) ε
@[reducible] def b__law_divisor : Ev → Out := (sSeq (sPar2 0 1 (slP (eCB fAbs (aCons (eV 0) aNil))) (slP (eCB fAbs (aCons (eV 1) aNil))))
    (sSeq (sFor S1__law_divisor T1__law_divisor B1__law_divisor)
    (sRet (eV 0))))
def g__law_divisor (ds : List D) : Res D := outRes (b__law_divisor (startE 3 ds))
@[reducible] def b__law_plain : Ev → Out := (sSeq (sTg (tName 2) (eCB g__law_divisor (aCons (eV 0) (aCons (eV 1) aNil))))
    (sRet (eTup (aCons (eOp dDiv (eV 0) (eV 2)) (aCons (eOp dDiv (eV 1) (eV 2)) aNil)))))
def g__law_plain (ds : List D) : Res D := outRes (b__law_plain (startE 3 ds))
@[reducible] def b__law_plus : Ev → Out := (sRet (eCB g__law_plain (aCons (eOp dAdd (eOp dMul (eOp dIx (eV 0) (eC (.int 0))) (eOp dIx (eV 1) (eC (.int 1)))) (eOp dMul (eOp dIx (eV 1) (eC (.int 0))) (eOp dIx (eV 0) (eC (.int 1))))) (aCons (eOp dMul (eOp dIx (eV 0) (eC (.int 1))) (eOp dIx (eV 1) (eC (.int 1)))) aNil))))
def g__law_plus (ds : List D) : Res D := outRes (b__law_plus (startE 2 ds))
@[reducible, simp] def S1__law_total (ε : Ev) : Res (List D × Ev) := (iSeq (eV 0)) ε
@[reducible, simp] def T1__law_total (d : D) (ε : Ev) : Res Ev := (tName 2) d ε
@[reducible, simp] def B1__law_total (ε : Ev) : Out := (sTg (tName 1) (eCB g__law_plus (aCons (eV 1) (aCons (eV 2) aNil)))) ε
@[reducible] def b__law_total : Ev → Out := (sSeq (sTg (tName 1) (eTup (aCons (eC (.int 0)) (aCons (eC (.int 1)) aNil))))
    (sSeq (sFor S1__law_total T1__law_total B1__law_total)
    (sRet (eV 1))))
def g__law_total (ds : List D) : Res D := outRes (b__law_total (startE 3 ds))
@[reducible] def b__law_chance : Ev → Out := (sSeq (sTg (tName 1) (eOp dAdd (eC (.int 1)) (eCallC 0 g__law_roll (aCons (eC (.int 5)) aNil))))
    (sRet (eCB g__law_plain (aCons (eCallC 0 g__law_roll (aCons (eOp dAdd (eV 1) (eC (.int 1))) aNil)) (aCons (eV 1) aNil)))))
def g__law_chance (cs ds : List D) : Res (D × List D) := outC (b__law_chance (startC 2 cs ds))
@[reducible, simp] def CS1__law_parts (ε : Ev) : Res (List D × Ev) := (iCall fRange (aCons (eV 1) aNil)) ε
@[reducible, simp] def CT1__law_parts (d : D) (ε : Ev) : Res Ev := (tName 2) d ε
@[reducible, simp] def CP1__law_parts (ε : Ev) : Res (Bool × Ev) := (fun ε => .ok (true, ε)) ε
@[reducible, simp] def CE1__law_parts (ε : Ev) : Res (D × Ev) := (eCallC 0 g__law_chance aNil) ε
@[reducible] def b__law_parts : Ev → Out := (sRet (eCB fTuple (aCons (eL (eComp [2] CS1__law_parts CT1__law_parts CP1__law_parts CE1__law_parts)) aNil)))
def g__law_parts (cs ds : List D) : Res (D × List D) := outC (b__law_parts (startC 3 cs ds))
@[reducible, simp] def CS1__law_lots (ε : Ev) : Res (List D × Ev) := (iSeq (eV 1)) ε
@[reducible, simp] def CT1__law_lots (d : D) (ε : Ev) : Res Ev := (tName 3) d ε
@[reducible, simp] def CP1__law_lots (ε : Ev) : Res (Bool × Ev) := (fun ε => .ok (true, ε)) ε
@[reducible, simp] def CE1__law_lots (ε : Ev) : Res (D × Ev) := (eOp dAdd (eV 3) (eTup (aCons (eV 2) aNil))) ε
@[reducible, simp] def S1__law_lots (ε : Ev) : Res (List D × Ev) := (iCall fRange (aCons (eV 0) aNil)) ε
@[reducible, simp] def T1__law_lots (d : D) (ε : Ev) : Res Ev := (tName 2) d ε
@[reducible, simp] def B1__law_lots (ε : Ev) : Out := (sTg (tName 1) (eOp dAdd (eV 1) (eL (eComp [3] CS1__law_lots CT1__law_lots CP1__law_lots CE1__law_lots)))) ε
@[reducible] def b__law_lots : Ev → Out := (sSeq (sTg (tName 1) (eL (aCons (eTup aNil) aNil)))
    (sSeq (sFor S1__law_lots T1__law_lots B1__law_lots)
    (sRet (eV 1))))
def g__law_lots (ds : List D) : Res D := outRes (b__law_lots (startE 4 ds))
@[reducible, simp] def S1__law_lot_chance (ε : Ev) : Res (List D × Ev) := (iCall fEnum (aCons (eV 0) aNil)) ε
@[reducible, simp] def T1__law_lot_chance (d : D) (ε : Ev) : Res Ev := (tTupD (tsCons (tName 4) (tsCons (tTupD (tsCons (tName 5) (tsCons (tName 6) tsNil))) tsNil))) d ε
@[reducible, simp] def B1__law_lot_chance (ε : Ev) : Out := (sPar2 2 3 (slP (eOp dMul (eV 2) (eIf (bOf (eOp (dIn false) (eV 4) (eV 1))) (eV 5) (eOp dSub (eV 6) (eV 5))))) (slP (eOp dMul (eV 3) (eV 6)))) ε
@[reducible] def b__law_lot_chance : Ev → Out := (sSeq (sTg (tTupD (tsCons (tName 2) (tsCons (tName 3) tsNil))) (eTup (aCons (eC (.int 1)) (aCons (eC (.int 1)) aNil))))
    (sSeq (sFor S1__law_lot_chance T1__law_lot_chance B1__law_lot_chance)
    (sRet (eCB g__law_plain (aCons (eV 2) (aCons (eV 3) aNil))))))
def g__law_lot_chance (ds : List D) : Res D := outRes (b__law_lot_chance (startE 7 ds))
@[reducible, simp] def S1__law_power (ε : Ev) : Res (List D × Ev) := (iCall fRange (aCons (eV 1) aNil)) ε
@[reducible, simp] def T1__law_power (d : D) (ε : Ev) : Res Ev := (tName 3) d ε
@[reducible, simp] def B1__law_power (ε : Ev) : Out := (sTg (tName 2) (eOp dMul (eV 2) (eV 0))) ε
@[reducible] def b__law_power : Ev → Out := (sSeq (sTg (tName 2) (eC (.int 1)))
    (sSeq (sFor S1__law_power T1__law_power B1__law_power)
    (sRet (eV 2))))
def g__law_power (ds : List D) : Res D := outRes (b__law_power (startE 4 ds))
@[reducible] def b__law_bad_parts : Ev → Out := (sSeq (sTg (tName 0) (eTup (aCons (eC (.int 1)) (aCons (eC (.int 2)) aNil))))
    (sSeq (sTg (tName 1) (eL (aCons (eC .non) (aCons (eL (aCons (eV 0) aNil)) (aCons (eOp dMul (eTup (aCons (eV 0) aNil)) (eC (.int 13))) (aCons (eTup (aCons (eTup (aCons (eC (.int 2)) (aCons (eC (.int 4)) aNil))) aNil)) (aCons (eTup (aCons (eTup (aCons (eC (.int 3)) (aCons (eC (.int 2)) aNil))) aNil)) (aCons (eTup (aCons (eTup (aCons (eUn dNeg (eC (.int 1))) (aCons (eC (.int 2)) aNil))) aNil)) (aCons (eTup (aCons (eTup (aCons (eC (.int 1)) (aCons (eC (.int 1001)) aNil))) aNil)) (aCons (eTup (aCons (eC (.int 1)) aNil)) aNil))))))))))
    (sRet (eOp dAdd (eV 1) (eL (aCons (eTup (aCons (eTup (aCons (eC (.int 1)) (aCons (eC (.bl true)) aNil))) aNil)) (aCons (eTup (aCons (eTup (aCons (eC (.int 1)) (aCons (eC (.int 2)) (aCons (eC (.int 3)) aNil)))) aNil)) (aCons (eV 0) (aCons (eC (.str "parts")) aNil)))))))))
def g__law_bad_parts (ds : List D) : Res D := outRes (b__law_bad_parts (startE 2 ds))
def isT (c j : Nat) : Bool := (([[true, false, false, false], [false, true, false, false], [false, false, true, false], [false, false, false, true]] : List (List Bool)).getD c []).getD j false
def okE (c : Nat) : Bool := Nat.blt c 4
@[reducible] def b__law_error (cc : Nat) : Ev → Out := (sSeq (sTg (tName 2) (eL (aCons (eTup (aCons (eC (.str "chances")) (aCons (eIsE 1 (isT cc 1)) aNil))) (aCons (eTup (aCons (eC (.str "number")) (aCons (eIsE 1 (isT cc 0)) aNil))) aNil))))
    (sSeq (sTg (tName 3) (eL (eComp [4, 5] (iSeqL (eV 2)) (tTupD (tsCons (tName 4) (tsCons (tName 5) tsNil))) (bOf (eV 5)) (eV 4))))
    (sRet (eJoin (eC (.str " ")) (eV 3)))))
def wdE (c : Nat) : Str := (rtS (b__law_error c (startX 6 1))).getD ""
@[reducible, simp] def CS1__law_has_run (ε : Ev) : Res (List D × Ev) := (iCall fRange (aCons (eV 2) aNil)) ε
@[reducible, simp] def CT1__law_has_run (d : D) (ε : Ev) : Res Ev := (tName 5) d ε
@[reducible, simp] def CP1__law_has_run (ε : Ev) : Res (Bool × Ev) := (bOf (eOp (dIn false) (eIf (bOf (eOp dLt (eOp dAdd (eV 4) (eV 5)) (eV 1))) (eOp dAdd (eV 4) (eV 5)) (eOp dSub (eOp dAdd (eV 4) (eV 5)) (eV 1))) (eV 0))) ε
@[reducible, simp] def CE1__law_has_run (ε : Ev) : Res (D × Ev) := (eC (.int 1)) ε
@[reducible, simp] def S1__law_has_run (ε : Ev) : Res (List D × Ev) := (iCall fRange (aCons (eIf (bOf (eV 3)) (eV 1) (eOp dAdd (eOp dSub (eV 1) (eV 2)) (eC (.int 1)))) aNil)) ε
@[reducible, simp] def T1__law_has_run (d : D) (ε : Ev) : Res Ev := (tName 4) d ε
@[reducible, simp] def B1__law_has_run (ε : Ev) : Out := (sIf (bOf (eOp dEq (eL (eComp [5] CS1__law_has_run CT1__law_has_run CP1__law_has_run CE1__law_has_run)) (eL aNil))) (sRet (eC (.bl true))) (fun ε => .nx ε)) ε
@[reducible] def b__law_has_run : Ev → Out := (sSeq (sIf (bOf (eOp dGt (eV 2) (eV 1))) (sRet (eC (.bl false))) (fun ε => .nx ε))
    (sSeq (sFor S1__law_has_run T1__law_has_run B1__law_has_run)
    (sRet (eC (.bl false)))))
def g__law_has_run (ds : List D) : Res D := outRes (b__law_has_run (startE 6 ds))
@[reducible, simp] def CS1__law_right (ε : Ev) : Res (List D × Ev) := (iSeq (eCB g__law_lots (aCons (eV 1) aNil))) ε
@[reducible, simp] def CT1__law_right (d : D) (ε : Ev) : Res Ev := (tName 11) d ε
@[reducible, simp] def CP1__law_right (ε : Ev) : Res (Bool × Ev) := (bNot (bOf (eCB g__law_has_run (aCons (eV 11) (aCons (eV 1) (aCons (eV 3) (aCons (eC (.bl false)) aNil))))))) ε
@[reducible, simp] def CE1__law_right (ε : Ev) : Res (D × Ev) := (eV 11) ε
@[reducible, simp] def CS2__law_right (ε : Ev) : Res (List D × Ev) := (iSeq (eCB g__law_lots (aCons (eV 1) aNil))) ε
@[reducible, simp] def CT2__law_right (d : D) (ε : Ev) : Res Ev := (tName 11) d ε
@[reducible, simp] def CP2__law_right (ε : Ev) : Res (Bool × Ev) := (bNot (bOf (eCB g__law_has_run (aCons (eV 11) (aCons (eV 1) (aCons (eV 3) (aCons (eC (.bl true)) aNil))))))) ε
@[reducible, simp] def CE2__law_right (ε : Ev) : Res (D × Ev) := (eV 11) ε
@[reducible, simp] def CS3__law_right (ε : Ev) : Res (List D × Ev) := (iSeq (eV 12)) ε
@[reducible, simp] def CT3__law_right (d : D) (ε : Ev) : Res Ev := (tName 11) d ε
@[reducible, simp] def CP3__law_right (ε : Ev) : Res (Bool × Ev) := (fun ε => .ok (true, ε)) ε
@[reducible, simp] def CE3__law_right (ε : Ev) : Res (D × Ev) := (eCB g__law_lot_chance (aCons (eV 2) (aCons (eV 11) aNil))) ε
@[reducible, simp] def CS4__law_right (ε : Ev) : Res (List D × Ev) := (iSeq (eTup (aCons (eV 4) (aCons (eV 5) aNil)))) ε
@[reducible, simp] def CT4__law_right (d : D) (ε : Ev) : Res Ev := (tName 12) d ε
@[reducible, simp] def CP4__law_right (ε : Ev) : Res (Bool × Ev) := (fun ε => .ok (true, ε)) ε
@[reducible, simp] def CE4__law_right (ε : Ev) : Res (D × Ev) := (eCB g__law_total (aCons (eL (eComp [11] CS3__law_right CT3__law_right CP3__law_right CE3__law_right)) aNil)) ε
@[reducible, simp] def CS5__law_right (ε : Ev) : Res (List D × Ev) := (iSeq (eV 4)) ε
@[reducible, simp] def CT5__law_right (d : D) (ε : Ev) : Res Ev := (tName 11) d ε
@[reducible, simp] def CP5__law_right (ε : Ev) : Res (Bool × Ev) := (fun ε => .ok (true, ε)) ε
@[reducible, simp] def CE5__law_right (ε : Ev) : Res (D × Ev) := (eCB g__law_lot_chance (aCons (eOp dMul (eTup (aCons (eV 9) aNil)) (eV 1)) (aCons (eV 11) aNil))) ε
@[reducible] def b__law_right : Ev → Out := (sSeq (sTg (tTupD (tsCons (tName 2) (tsCons (tName 3) tsNil))) (eTup (aCons (eCallC 0 g__law_parts (aCons (eV 1) aNil)) (aCons (eOp dAdd (eC (.int 1)) (eCallC 0 g__law_roll (aCons (eOp dAdd (eV 1) (eC (.int 2))) aNil))) aNil))))
    (sSeq (sTg (tName 4) (eL (eComp [11] CS1__law_right CT1__law_right CP1__law_right CE1__law_right)))
    (sSeq (sTg (tName 5) (eL (eComp [11] CS2__law_right CT2__law_right CP2__law_right CE2__law_right)))
    (sSeq (sTg (tName 6) (eL (eComp [12] CS4__law_right CT4__law_right CP4__law_right CE4__law_right)))
    (sSeq (sTg (tName 7) (eL (aCons (eCB g_row_without (aCons (eV 2) (aCons (eV 3) aNil))) (aCons (eCB g_ring_without (aCons (eV 2) (aCons (eV 3) aNil))) (aCons (eCB g_count_rows (aCons (eV 1) (aCons (eV 3) aNil))) (aCons (eCB g_count_rings (aCons (eV 1) (aCons (eV 3) aNil))) aNil))))))
    (sSeq (sIf (bNot (bOf (eCB (g__law_like 12) (aCons (eV 7) (aCons (eOp dAdd (eV 6) (eL (aCons (eCB fLen (aCons (eV 4) aNil)) (aCons (eCB fLen (aCons (eV 5) aNil)) aNil)))) aNil))))) (sRet (eC (.bl false))) (fun ε => .nx ε))
    (sSeq (sTg (tName 8) (eCallC 0 g__law_roll (aCons (eOp dAdd (eV 1) (eC (.int 1))) aNil)))
    (sSeq (sTg (tName 7) (eL (aCons (eCB g_row_without (aCons (eBack (eV 2) oN oN) (aCons (eV 3) aNil))) (aCons (eCB g_ring_without (aCons (eOp dAdd (eSl (eV 2) (oS (eV 8)) oN) (eSl (eV 2) oN (oS (eV 8)))) (aCons (eV 3) aNil))) aNil))))
    (sSeq (sIf (bOr (bNot (bOf (eCB (g__law_like 12) (aCons (eV 7) (aCons (eV 6) aNil))))) (bOf (eOp dGt (eOp dMul (eOp dIx (eOp dIx (eV 6) (eC (.int 1))) (eC (.int 0))) (eOp dIx (eOp dIx (eV 6) (eC (.int 0))) (eC (.int 1)))) (eOp dMul (eOp dIx (eOp dIx (eV 6) (eC (.int 0))) (eC (.int 0))) (eOp dIx (eOp dIx (eV 6) (eC (.int 1))) (eC (.int 1))))))) (sRet (eC (.bl false))) (fun ε => .nx ε))
    (sSeq (sTg (tName 9) (eCallC 0 g__law_chance aNil))
    (sSeq (sTg (tName 10) (eCB g__law_total (aCons (eL (eComp [11] CS5__law_right CT5__law_right CP5__law_right CE5__law_right)) aNil)))
    (sRet (eCB (g__law_like 12) (aCons (eCB g_value_at (aCons (eCB g_run_polynomial (aCons (eV 1) (aCons (eV 3) aNil))) (aCons (eV 9) aNil))) (aCons (eV 10) aNil)))))))))))))))
def g__law_right (cs ds : List D) : Res (D × List D) := outC (b__law_right (startC 13 cs ds))
@[reducible, simp] def CS1__law_great_right (ε : Ev) : Res (List D × Ev) := (iCall fRange (aCons (eC (.int 41)) aNil)) ε
@[reducible, simp] def CT1__law_great_right (d : D) (ε : Ev) : Res Ev := (tName 3) d ε
@[reducible, simp] def CP1__law_great_right (ε : Ev) : Res (Bool × Ev) := (fun ε => .ok (true, ε)) ε
@[reducible, simp] def CE1__law_great_right (ε : Ev) : Res (D × Ev) := (eCB g_count_rows (aCons (eV 3) (aCons (eV 1) aNil))) ε
@[reducible, simp] def S1__law_great_right (ε : Ev) : Res (List D × Ev) := (iCall fRange (aCons (eC (.int 41)) aNil)) ε
@[reducible, simp] def T1__law_great_right (d : D) (ε : Ev) : Res Ev := (tName 3) d ε
@[reducible, simp] def B1__law_great_right (ε : Ev) : Out := (sSeq (sTg (tName 4) (eIf (bOf (eOp dLt (eV 3) (eV 1))) (eCB g__law_power (aCons (eC (.int 2)) (aCons (eV 3) aNil))) (eCB fSum (aCons (eSl (eV 2) (oS (eOp dSub (eV 3) (eV 1))) (oS (eV 3))) aNil))))
    (sIf (bOf (eOp dNe (eOp dIx (eV 2) (eV 3)) (eV 4))) (sRet (eC (.bl false))) (fun ε => .nx ε))) ε
@[reducible, simp] def CS2__law_great_right (ε : Ev) : Res (List D × Ev) := (iCall fRange (aCons (eC (.int 3)) (aCons (eC (.int 41)) aNil))) ε
@[reducible, simp] def CT2__law_great_right (d : D) (ε : Ev) : Res Ev := (tName 3) d ε
@[reducible, simp] def CP2__law_great_right (ε : Ev) : Res (Bool × Ev) := (fun ε => .ok (true, ε)) ε
@[reducible, simp] def CE2__law_great_right (ε : Ev) : Res (D × Ev) := (eCB g_count_rings (aCons (eV 3) (aCons (eC (.int 2)) aNil))) ε
@[reducible, simp] def CS3__law_great_right (ε : Ev) : Res (List D × Ev) := (iCall fRange (aCons (eC (.int 41)) aNil)) ε
@[reducible, simp] def CT3__law_great_right (d : D) (ε : Ev) : Res Ev := (tName 3) d ε
@[reducible, simp] def CP3__law_great_right (ε : Ev) : Res (Bool × Ev) := (fun ε => .ok (true, ε)) ε
@[reducible, simp] def CE3__law_great_right (ε : Ev) : Res (D × Ev) := (eCB g_count_rows (aCons (eV 3) (aCons (eC (.int 2)) aNil))) ε
@[reducible, simp] def CS4__law_great_right (ε : Ev) : Res (List D × Ev) := (iCall fRange (aCons (eC (.int 3)) (aCons (eC (.int 41)) aNil))) ε
@[reducible, simp] def CT4__law_great_right (d : D) (ε : Ev) : Res Ev := (tName 3) d ε
@[reducible, simp] def CP4__law_great_right (ε : Ev) : Res (Bool × Ev) := (fun ε => .ok (true, ε)) ε
@[reducible, simp] def CE4__law_great_right (ε : Ev) : Res (D × Ev) := (eOp dSub (eOp dIx (eV 6) (eV 3)) (eIf (bOf (eOp dGt (eV 3) (eC (.int 3)))) (eOp dIx (eV 6) (eOp dSub (eV 3) (eC (.int 4)))) (eC (.int 1)))) ε
@[reducible] def b__law_great_right : Ev → Out := (sSeq (sTg (tName 1) (eOp dAdd (eC (.int 1)) (eCallC 0 g__law_roll (aCons (eC (.int 12)) aNil))))
    (sSeq (sTg (tName 2) (eL (eComp [3] CS1__law_great_right CT1__law_great_right CP1__law_great_right CE1__law_great_right)))
    (sSeq (sFor S1__law_great_right T1__law_great_right B1__law_great_right)
    (sSeq (sTg (tName 5) (eL (eComp [3] CS2__law_great_right CT2__law_great_right CP2__law_great_right CE2__law_great_right)))
    (sSeq (sTg (tName 6) (eL (eComp [3] CS3__law_great_right CT3__law_great_right CP3__law_great_right CE3__law_great_right)))
    (sSeq (sIf (bOf (eOp dNe (eV 5) (eL (eComp [3] CS4__law_great_right CT4__law_great_right CP4__law_great_right CE4__law_great_right)))) (sRet (eC (.bl false))) (fun ε => .nx ε))
    (sSeq (sTg (tName 3) (eOp dAdd (eC (.int 1)) (eCallC 0 g__law_roll (aCons (eC (.int 12)) aNil))))
    (sSeq (sTg (tName 7) (eL (aCons (eCB g_count_rings (aCons (eV 3) (aCons (eV 3) aNil))) (aCons (eCB g_count_rows (aCons (eV 3) (aCons (eV 3) aNil))) (aCons (eCB g_count_rows (aCons (eV 3) (aCons (eC (.int 1)) aNil))) (aCons (eCB g_count_rings (aCons (eV 3) (aCons (eC (.int 1)) aNil))) (aCons (eCB g_run_polynomial (aCons (eV 3) (aCons (eC (.int 1)) aNil))) aNil)))))))
    (sSeq (sTg (tName 7) (eOp dAdd (eV 7) (eL (aCons (eOp dGt (eCB fLen (aCons (eCB g_run_polynomial (aCons (eC (.int 30)) (aCons (eV 1) aNil))) aNil)) (eC (.int 1))) aNil))))
    (sSeq (sTg (tName 8) (eCB g__law_power (aCons (eC (.int 2)) (aCons (eV 3) aNil))))
    (sRet (eCB (g__law_like 12) (aCons (eV 7) (aCons (eL (aCons (eOp dSub (eV 8) (eC (.int 1))) (aCons (eOp dSub (eV 8) (eC (.int 1))) (aCons (eC (.int 1)) (aCons (eC (.int 1)) (aCons (eOp dAdd (eOp dMul (eTup (aCons (eC (.int 0)) aNil)) (eV 3)) (eTup (aCons (eC (.int 1)) aNil))) (aCons (eC (.bl true)) aNil))))))) aNil))))))))))))))
def g__law_great_right (cs ds : List D) : Res (D × List D) := outC (b__law_great_right (startC 9 cs ds))
def gs2 : Nat → Option (List D → Res D)
  | 0 => some g_row_without
  | 1 => some g_ring_without
  | 2 => some g_count_rows
  | 3 => some g_count_rings
  | 4 => some g_run_polynomial
  | _ => none
@[reducible, simp] def CS1__law_errors_right (ε : Ev) : Res (List D × Ev) := (iSeq (eTup (aCons (eC (.fn 0)) (aCons (eC (.fn 1)) aNil)))) ε
@[reducible, simp] def CT1__law_errors_right (d : D) (ε : Ev) : Res Ev := (tName 4) d ε
@[reducible, simp] def CP1__law_errors_right (ε : Ev) : Res (Bool × Ev) := (fun ε => .ok (true, ε)) ε
@[reducible, simp] def CE1__law_errors_right (ε : Ev) : Res (D × Ev) := (eErrV "none" okE wdE 4 gs2 (aCons (eV 1) (aCons (eC .non) aNil))) ε
@[reducible, simp] def S1__law_errors_right (ε : Ev) : Res (List D × Ev) := (iSeq (eCall0 g__law_bad_parts)) ε
@[reducible, simp] def T1__law_errors_right (d : D) (ε : Ev) : Res Ev := (tName 1) d ε
@[reducible, simp] def B1__law_errors_right (ε : Ev) : Out := (sOwn 0 (eOpN dCat (eZ 0) (eL (eComp [4] CS1__law_errors_right CT1__law_errors_right CP1__law_errors_right CE1__law_errors_right)))) ε
@[reducible, simp] def CS2__law_errors_right (ε : Ev) : Res (List D × Ev) := (iSeq (eTup (aCons (eC (.fn 0)) (aCons (eC (.fn 1)) aNil)))) ε
@[reducible, simp] def CT2__law_errors_right (d : D) (ε : Ev) : Res Ev := (tName 4) d ε
@[reducible, simp] def CP2__law_errors_right (ε : Ev) : Res (Bool × Ev) := (fun ε => .ok (true, ε)) ε
@[reducible, simp] def CE2__law_errors_right (ε : Ev) : Res (D × Ev) := (eErrV "none" okE wdE 4 gs2 (aCons (eTup (aCons (eTup (aCons (eC (.int 1)) (aCons (eC (.int 2)) aNil))) aNil)) (aCons (eV 2) aNil))) ε
@[reducible, simp] def CS3__law_errors_right (ε : Ev) : Res (List D × Ev) := (iSeq (eTup (aCons (eC (.fn 2)) (aCons (eC (.fn 3)) (aCons (eC (.fn 4)) aNil))))) ε
@[reducible, simp] def CT3__law_errors_right (d : D) (ε : Ev) : Res Ev := (tName 4) d ε
@[reducible, simp] def CP3__law_errors_right (ε : Ev) : Res (Bool × Ev) := (fun ε => .ok (true, ε)) ε
@[reducible, simp] def CE3__law_errors_right (ε : Ev) : Res (D × Ev) := (eErrV "none" okE wdE 4 gs2 (aCons (eC (.int 3)) (aCons (eV 2) aNil))) ε
@[reducible, simp] def S2__law_errors_right (ε : Ev) : Res (List D × Ev) := (iSeq (eTup (aCons (eC .non) (aCons (eC (.int 0)) (aCons (eC (.int 13)) (aCons (eC (.bl true)) (aCons (eC (.str "1")) aNil))))))) ε
@[reducible, simp] def T2__law_errors_right (d : D) (ε : Ev) : Res Ev := (tName 2) d ε
@[reducible, simp] def B2__law_errors_right (ε : Ev) : Out := (sSeq (sOwn 0 (eOpN dCat (eZ 0) (eL (eComp [4] CS2__law_errors_right CT2__law_errors_right CP2__law_errors_right CE2__law_errors_right))))
    (sOwn 0 (eOpN dCat (eZ 0) (eL (eComp [4] CS3__law_errors_right CT3__law_errors_right CP3__law_errors_right CE3__law_errors_right))))) ε
@[reducible, simp] def CS4__law_errors_right (ε : Ev) : Res (List D × Ev) := (iSeq (eTup (aCons (eC (.fn 2)) (aCons (eC (.fn 3)) (aCons (eC (.fn 4)) aNil))))) ε
@[reducible, simp] def CT4__law_errors_right (d : D) (ε : Ev) : Res Ev := (tName 4) d ε
@[reducible, simp] def CP4__law_errors_right (ε : Ev) : Res (Bool × Ev) := (fun ε => .ok (true, ε)) ε
@[reducible, simp] def CE4__law_errors_right (ε : Ev) : Res (D × Ev) := (eErrV "none" okE wdE 4 gs2 (aCons (eV 3) (aCons (eC (.int 2)) aNil))) ε
@[reducible, simp] def S3__law_errors_right (ε : Ev) : Res (List D × Ev) := (iSeq (eTup (aCons (eC .non) (aCons (eUn dNeg (eC (.int 1))) (aCons (eC (.int 41)) (aCons (eC (.bl true)) aNil)))))) ε
@[reducible, simp] def T3__law_errors_right (d : D) (ε : Ev) : Res Ev := (tName 3) d ε
@[reducible, simp] def B3__law_errors_right (ε : Ev) : Out := (sOwn 0 (eOpN dCat (eZ 0) (eL (eComp [4] CS4__law_errors_right CT4__law_errors_right CP4__law_errors_right CE4__law_errors_right)))) ε
@[reducible] def b__law_errors_right : Ev → Out := (sSeq (sOwn 0 aNil)
    (sSeq (sFor S1__law_errors_right T1__law_errors_right B1__law_errors_right)
    (sSeq (sFor S2__law_errors_right T2__law_errors_right B2__law_errors_right)
    (sSeq (sFor S3__law_errors_right T3__law_errors_right B3__law_errors_right)
    (sSeq (sAppend 0 (eErr "none" okE wdE g_run_polynomial (aCons (eC (.int 31)) (aCons (eC (.int 2)) aNil))))
    (sRet (eOp dEq (eZ 0) (eOp dAdd (eOp dMul (eL (aCons (eC (.str "chances")) aNil)) (eC (.int 24))) (eOp dMul (eL (aCons (eC (.str "number")) aNil)) (eC (.int 38)))))))))))
def g__law_errors_right (ds : List D) : Res D := outRes (b__law_errors_right (startE 5 ds))
@[reducible, simp] def S1_law (ε : Ev) : Res (List D × Ev) := (iCall fRange (aCons (eC (.int 6)) aNil)) ε
@[reducible, simp] def T1_law (d : D) (ε : Ev) : Res Ev := (tName 2) d ε
@[reducible, simp] def B1_law (ε : Ev) : Out := (sIf (bNot (bOf (eCallC 1 g__law_right (aCons (eCallC 1 g__law_roll (aCons (eC (.int 8)) aNil)) aNil)))) (sRet (eC (.bl false))) (fun ε => .nx ε)) ε
@[reducible] def b_law : Ev → Out := (sSeq (sOwn 1 (eCallN g__law_cup (aCons (eV 0) aNil)))
    (sSeq (sFor S1_law T1_law B1_law)
    (sSeq (sTg (tName 3) (eTup (aCons (eTup (aCons (eC (.int 1)) (aCons (eC (.int 2)) aNil))) (aCons (eTup (aCons (eC (.int 1)) (aCons (eC (.int 3)) aNil))) (aCons (eTup (aCons (eC (.int 1)) (aCons (eC (.int 4)) aNil))) aNil)))))
    (sSeq (sTg (tName 4) (eL (aCons (eCB g_row_without (aCons (eV 3) (aCons (eC (.int 2)) aNil))) (aCons (eCB g_ring_without (aCons (eV 3) (aCons (eC (.int 2)) aNil))) (aCons (eCB g_row_without (aCons (eV 3) (aCons (eC (.int 1)) aNil))) (aCons (eCB g_ring_without (aCons (eV 3) (aCons (eC (.int 3)) aNil))) (aCons (eCB g_row_without (aCons (eV 3) (aCons (eC (.int 4)) aNil))) aNil)))))))
    (sSeq (sTg (tName 4) (eOp dAdd (eV 4) (eL (aCons (eCB g_count_rows (aCons (eC (.int 4)) (aCons (eC (.int 2)) aNil))) (aCons (eCB g_count_rings (aCons (eC (.int 4)) (aCons (eC (.int 2)) aNil))) aNil)))))
    (sSeq (sTg (tName 4) (eOp dAdd (eV 4) (eL (aCons (eCB g_run_polynomial (aCons (eC (.int 3)) (aCons (eC (.int 2)) aNil))) (aCons (eCB g_count_rows (aCons (eC (.int 0)) (aCons (eC (.int 1)) aNil))) (aCons (eCB g_count_rings (aCons (eC (.int 2)) (aCons (eC (.int 3)) aNil))) (aCons (eCB g_run_polynomial (aCons (eC (.int 2)) (aCons (eC (.int 1)) aNil))) aNil)))))))
    (sSeq (sTg (tName 4) (eOp dAdd (eV 4) (eL (aCons (eCB g_row_without (aCons (eTup (aCons (eTup (aCons (eC (.int 1)) (aCons (eC (.int 2)) aNil))) (aCons (eTup (aCons (eC (.int 0)) (aCons (eC (.int 1)) aNil))) (aCons (eTup (aCons (eC (.int 1)) (aCons (eC (.int 4)) aNil))) aNil)))) (aCons (eC (.int 2)) aNil))) aNil))))
    (sSeq (sTg (tName 4) (eOp dAdd (eV 4) (eL (aCons (eCB g_ring_without (aCons (eTup (aCons (eTup (aCons (eC (.int 1)) (aCons (eC (.int 2)) aNil))) (aCons (eTup (aCons (eC (.int 1)) (aCons (eC (.int 3)) aNil))) (aCons (eTup (aCons (eC (.int 1)) (aCons (eC (.int 4)) aNil))) (aCons (eTup (aCons (eC (.int 1)) (aCons (eC (.int 1)) aNil))) aNil))))) (aCons (eC (.int 2)) aNil))) aNil))))
    (sSeq (sTg (tName 4) (eOp dAdd (eV 4) (eL (aCons (eCB g_row_without (aCons (eTup (aCons (eTup (aCons (eC (.int 0)) (aCons (eC (.int 1)) aNil))) (aCons (eTup (aCons (eC (.int 1)) (aCons (eC (.int 3)) aNil))) (aCons (eTup (aCons (eC (.int 1)) (aCons (eC (.int 4)) aNil))) aNil)))) (aCons (eC (.int 2)) aNil))) (aCons (eCB g_row_without (aCons (eTup (aCons (eTup (aCons (eC (.int 1)) (aCons (eC (.int 2)) aNil))) (aCons (eTup (aCons (eC (.int 1)) (aCons (eC (.int 3)) aNil))) (aCons (eTup (aCons (eC (.int 0)) (aCons (eC (.int 1)) aNil))) aNil)))) (aCons (eC (.int 2)) aNil))) aNil)))))
    (sSeq (sTg (tName 4) (eOp dAdd (eV 4) (eL (aCons (eCB g_row_without (aCons (eTup aNil) (aCons (eC (.int 1)) aNil))) (aCons (eCB g_ring_without (aCons (eTup aNil) (aCons (eC (.int 1)) aNil))) aNil)))))
    (sSeq (sTg (tName 4) (eOp dAdd (eV 4) (eL (aCons (eCB g_ring_without (aCons (eTup (aCons (eTup (aCons (eC (.int 1)) (aCons (eC (.int 3)) aNil))) aNil)) (aCons (eC (.int 1)) aNil))) (aCons (eCB g_ring_without (aCons (eTup (aCons (eTup (aCons (eC (.int 1)) (aCons (eC (.int 3)) aNil))) aNil)) (aCons (eC (.int 2)) aNil))) (aCons (eCB g_run_polynomial (aCons (eC (.int 0)) (aCons (eC (.int 3)) aNil))) (aCons (eCB g_count_rings (aCons (eC (.int 3)) (aCons (eC (.int 2)) aNil))) aNil)))))))
    (sSeq (sTg (tName 4) (eOp dAdd (eV 4) (eL (aCons (eCB g_count_rings (aCons (eC (.int 0)) (aCons (eC (.int 1)) aNil))) aNil))))
    (sSeq (sTg (tName 5) (eL (aCons (eTup (aCons (eC (.int 5)) (aCons (eC (.int 12)) aNil))) (aCons (eTup (aCons (eC (.int 7)) (aCons (eC (.int 24)) aNil))) (aCons (eTup (aCons (eC (.int 1)) (aCons (eC (.int 24)) aNil))) (aCons (eTup (aCons (eC (.int 3)) (aCons (eC (.int 4)) aNil))) (aCons (eTup (aCons (eC (.int 1)) (aCons (eC (.int 1)) aNil))) (aCons (eC (.int 8)) (aCons (eC (.int 7)) (aCons (eTup (aCons (eC (.int 0)) (aCons (eC (.int 1)) (aCons (eC (.int 1)) (aCons (eUn dNeg (eC (.int 1))) aNil))))) (aCons (eC (.int 1)) (aCons (eC (.int 4)) (aCons (eTup (aCons (eC (.int 0)) (aCons (eC (.int 0)) (aCons (eC (.int 1)) aNil)))) (aCons (eTup (aCons (eC (.int 1)) (aCons (eC (.int 8)) aNil))) (aCons (eTup (aCons (eC (.int 5)) (aCons (eC (.int 12)) aNil))) aNil)))))))))))))))
    (sSeq (sTg (tName 5) (eOp dAdd (eV 5) (eL (aCons (eTup (aCons (eC (.int 1)) (aCons (eC (.int 3)) aNil))) (aCons (eTup (aCons (eC (.int 1)) (aCons (eC (.int 3)) aNil))) (aCons (eTup (aCons (eC (.int 1)) (aCons (eC (.int 1)) aNil))) (aCons (eTup (aCons (eC (.int 1)) (aCons (eC (.int 1)) aNil))) (aCons (eTup (aCons (eC (.int 1)) (aCons (eC (.int 3)) aNil))) (aCons (eTup (aCons (eC (.int 1)) (aCons (eC (.int 1)) aNil))) (aCons (eTup (aCons (eC (.int 1)) aNil)) (aCons (eC (.int 4)) (aCons (eC (.int 1)) aNil))))))))))))
    (sRet (eAnd (eCB (g__law_like 12) (aCons (eV 4) (aCons (eV 5) aNil))) (eAnd (eCallC 1 g__law_great_right aNil) (eCall0 g__law_errors_right))))))))))))))))))
def g_law (ds : List D) : Res D := outRes (b_law (startE 6 ds))
end W41

namespace W41
open PySem PySem.Spec PyProof.Rows L2 PL
def topS (i : Nat) : Stmt := PySem.Challenge.pw_roadsfail_k41_whole_bad_runs.main.body.getD i (.Pass ⟨0, 0, 0, 0⟩)
abbrev s_is_whole : Stmt := topS 8
theorem sc_is_whole : FnScope ["value", "low", "high"] ["value", "low", "high"] (defScope s_is_whole) := ⟨rfl, rfl, rfl, by decide +kernel, rfl, by decide +kernel, by decide +kernel⟩
abbrev s_need_whole : Stmt := topS 9
theorem sc_need_whole : FnScope ["value", "low", "high"] ["value", "low", "high"] (defScope s_need_whole) := ⟨rfl, rfl, rfl, by decide +kernel, rfl, by decide +kernel, by decide +kernel⟩
abbrev s_is_tuple_of : Stmt := topS 10
theorem sc_is_tuple_of : FnScope ["value", "low", "high"] ["value", "low", "high"] (defScope s_is_tuple_of) := ⟨rfl, rfl, rfl, by decide +kernel, rfl, by decide +kernel, by decide +kernel⟩
abbrev s_is_portion : Stmt := topS 13
theorem sc_is_portion : FnScope ["value"] ["value"] (defScope s_is_portion) := ⟨rfl, rfl, rfl, by decide +kernel, rfl, by decide +kernel, by decide +kernel⟩
abbrev s_lowest : Stmt := topS 14
theorem sc_lowest : FnScope ["top", "bottom", "shared"] ["top", "bottom"] (defScope s_lowest) := ⟨rfl, rfl, rfl, by decide +kernel, rfl, by decide +kernel, by decide +kernel⟩
abbrev s_plus : Stmt := topS 15
theorem sc_plus : FnScope ["one", "other"] ["one", "other"] (defScope s_plus) := ⟨rfl, rfl, rfl, by decide +kernel, rfl, by decide +kernel, by decide +kernel⟩
abbrev s_times : Stmt := topS 16
theorem sc_times : FnScope ["one", "other"] ["one", "other"] (defScope s_times) := ⟨rfl, rfl, rfl, by decide +kernel, rfl, by decide +kernel, by decide +kernel⟩
abbrev s_is_chance : Stmt := topS 20
theorem sc_is_chance : FnScope ["value"] ["value"] (defScope s_is_chance) := ⟨rfl, rfl, rfl, by decide +kernel, rfl, by decide +kernel, by decide +kernel⟩
abbrev s_need_parts : Stmt := topS 21
theorem sc_need_parts : FnScope ["parts", "part"] ["parts"] (defScope s_need_parts) := ⟨rfl, rfl, rfl, by decide +kernel, rfl, by decide +kernel, by decide +kernel⟩
abbrev s_rest_of : Stmt := topS 22
theorem sc_rest_of : FnScope ["chance"] ["chance"] (defScope s_rest_of) := ⟨rfl, rfl, rfl, by decide +kernel, rfl, by decide +kernel, by decide +kernel⟩
abbrev s_is_polynomial : Stmt := topS 26
theorem sc_is_polynomial : FnScope ["value", "part"] ["value"] (defScope s_is_polynomial) := ⟨rfl, rfl, rfl, by decide +kernel, rfl, by decide +kernel, by decide +kernel⟩
abbrev s_need_polynomial : Stmt := topS 27
theorem sc_need_polynomial : FnScope ["value"] ["value"] (defScope s_need_polynomial) := ⟨rfl, rfl, rfl, by decide +kernel, rfl, by decide +kernel, by decide +kernel⟩
abbrev s_cut : Stmt := topS 28
theorem sc_cut : FnScope ["parts", "long"] ["parts"] (defScope s_cut) := ⟨rfl, rfl, rfl, by decide +kernel, rfl, by decide +kernel, by decide +kernel⟩
abbrev s_add : Stmt := topS 29
theorem sc_add : FnScope ["one", "other", "long", "first", "second", "part", "further"] ["one", "other"] (defScope s_add) := ⟨rfl, rfl, rfl, by decide +kernel, rfl, by decide +kernel, by decide +kernel⟩
abbrev s_multiply : Stmt := topS 30
theorem sc_multiply : FnScope ["one", "other", "found", "at", "part", "to", "further"] ["one", "other"] (defScope s_multiply) := ⟨rfl, rfl, rfl, by decide +kernel, rfl, by decide +kernel, by decide +kernel⟩
abbrev s_value_at : Stmt := topS 31
theorem sc_value_at : FnScope ["one", "number", "top", "bottom", "part"] ["one", "number"] (defScope s_value_at) := ⟨rfl, rfl, rfl, by decide +kernel, rfl, by decide +kernel, by decide +kernel⟩
abbrev s_steps_in : Stmt := topS 36
theorem sc_steps_in : FnScope ["parts", "states", "chance", "whole", "own"] ["parts", "states"] (defScope s_steps_in) := ⟨rfl, rfl, rfl, by decide +kernel, rfl, by decide +kernel, by decide +kernel⟩
abbrev s_sum_of : Stmt := topS 37
theorem sc_sum_of : FnScope ["states", "found", "own"] ["states"] (defScope s_sum_of) := ⟨rfl, rfl, rfl, by decide +kernel, rfl, by decide +kernel, by decide +kernel⟩
abbrev s_row_in : Stmt := topS 38
theorem sc_row_in : FnScope ["parts", "k"] ["parts", "k"] (defScope s_row_in) := ⟨rfl, rfl, rfl, by decide +kernel, rfl, by decide +kernel, by decide +kernel⟩
abbrev s_ring_in : Stmt := topS 39
theorem sc_ring_in : FnScope ["parts", "k", "found", "lead", "at", "start", "states"] ["parts", "k"] (defScope s_ring_in) := ⟨rfl, rfl, rfl, by decide +kernel, rfl, by decide +kernel, by decide +kernel⟩
abbrev s_rows_in : Stmt := topS 40
theorem sc_rows_in : FnScope ["n", "k", "found", "long"] ["n", "k"] (defScope s_rows_in) := ⟨rfl, rfl, rfl, by decide +kernel, rfl, by decide +kernel, by decide +kernel⟩
abbrev s_rings_in : Stmt := topS 41
theorem sc_rings_in : FnScope ["n", "k", "rows", "found", "ahead", "behind", "between"] ["n", "k"] (defScope s_rings_in) := ⟨rfl, rfl, rfl, by decide +kernel, rfl, by decide +kernel, by decide +kernel⟩
abbrev s_need_run : Stmt := topS 42
theorem sc_need_run : FnScope ["k"] ["k"] (defScope s_need_run) := ⟨rfl, rfl, rfl, by decide +kernel, rfl, by decide +kernel, by decide +kernel⟩
abbrev s_row_without : Stmt := topS 43
theorem sc_row_without : FnScope ["parts", "k"] ["parts", "k"] (defScope s_row_without) := ⟨rfl, rfl, rfl, by decide +kernel, rfl, by decide +kernel, by decide +kernel⟩
abbrev s_ring_without : Stmt := topS 44
theorem sc_ring_without : FnScope ["parts", "k"] ["parts", "k"] (defScope s_ring_without) := ⟨rfl, rfl, rfl, by decide +kernel, rfl, by decide +kernel, by decide +kernel⟩
abbrev s_count_rows : Stmt := topS 45
theorem sc_count_rows : FnScope ["n", "k"] ["n", "k"] (defScope s_count_rows) := ⟨rfl, rfl, rfl, by decide +kernel, rfl, by decide +kernel, by decide +kernel⟩
abbrev s_count_rings : Stmt := topS 46
theorem sc_count_rings : FnScope ["n", "k"] ["n", "k"] (defScope s_count_rings) := ⟨rfl, rfl, rfl, by decide +kernel, rfl, by decide +kernel, by decide +kernel⟩
abbrev s_run_polynomial : Stmt := topS 47
theorem sc_run_polynomial : FnScope ["n", "k", "states", "turn", "whole", "own", "found"] ["n", "k"] (defScope s_run_polynomial) := ⟨rfl, rfl, rfl, by decide +kernel, rfl, by decide +kernel, by decide +kernel⟩
abbrev s__law_cup : Stmt := topS 49
theorem sc__law_cup : FnScope ["script", "cell"] ["script"] (defScope s__law_cup) := ⟨rfl, rfl, rfl, by decide +kernel, rfl, by decide +kernel, by decide +kernel⟩
abbrev s__law_roll : Stmt := topS 50
theorem sc__law_roll : FnScope ["cup", "many", "found"] ["cup", "many"] (defScope s__law_roll) := ⟨rfl, rfl, rfl, by decide +kernel, rfl, by decide +kernel, by decide +kernel⟩
abbrev s__law_sort : Stmt := topS 51
theorem sc__law_sort : FnScope ["value"] ["value"] (defScope s__law_sort) := ⟨rfl, rfl, rfl, by decide +kernel, rfl, by decide +kernel, by decide +kernel⟩
abbrev s__law_like : Stmt := topS 52
theorem sc__law_like : FnScope ["one", "other", "sort", "first", "second"] ["one", "other"] (defScope s__law_like) := ⟨rfl, rfl, rfl, by decide +kernel, rfl, by decide +kernel, by decide +kernel⟩
abbrev s__law_divisor : Stmt := topS 53
theorem sc__law_divisor : FnScope ["one", "other", "turn"] ["one", "other"] (defScope s__law_divisor) := ⟨rfl, rfl, rfl, by decide +kernel, rfl, by decide +kernel, by decide +kernel⟩
abbrev s__law_plain : Stmt := topS 54
theorem sc__law_plain : FnScope ["top", "bottom", "shared"] ["top", "bottom"] (defScope s__law_plain) := ⟨rfl, rfl, rfl, by decide +kernel, rfl, by decide +kernel, by decide +kernel⟩
abbrev s__law_plus : Stmt := topS 55
theorem sc__law_plus : FnScope ["one", "other"] ["one", "other"] (defScope s__law_plus) := ⟨rfl, rfl, rfl, by decide +kernel, rfl, by decide +kernel, by decide +kernel⟩
abbrev s__law_total : Stmt := topS 56
theorem sc__law_total : FnScope ["parts", "found", "part"] ["parts"] (defScope s__law_total) := ⟨rfl, rfl, rfl, by decide +kernel, rfl, by decide +kernel, by decide +kernel⟩
abbrev s__law_chance : Stmt := topS 57
theorem sc__law_chance : FnScope ["cup", "bottom"] ["cup"] (defScope s__law_chance) := ⟨rfl, rfl, rfl, by decide +kernel, rfl, by decide +kernel, by decide +kernel⟩
abbrev s__law_parts : Stmt := topS 58
theorem sc__law_parts : FnScope ["cup", "many", "at"] ["cup", "many"] (defScope s__law_parts) := ⟨rfl, rfl, rfl, by decide +kernel, rfl, by decide +kernel, by decide +kernel⟩
abbrev s__law_lots : Stmt := topS 59
theorem sc__law_lots : FnScope ["many", "found", "at", "lot"] ["many"] (defScope s__law_lots) := ⟨rfl, rfl, rfl, by decide +kernel, rfl, by decide +kernel, by decide +kernel⟩
abbrev s__law_lot_chance : Stmt := topS 60
theorem sc__law_lot_chance : FnScope ["parts", "lot", "top", "bottom", "at", "good", "whole"] ["parts", "lot"] (defScope s__law_lot_chance) := ⟨rfl, rfl, rfl, by decide +kernel, rfl, by decide +kernel, by decide +kernel⟩
abbrev s__law_power : Stmt := topS 61
theorem sc__law_power : FnScope ["number", "often", "found", "turn"] ["number", "often"] (defScope s__law_power) := ⟨rfl, rfl, rfl, by decide +kernel, rfl, by decide +kernel, by decide +kernel⟩
abbrev s__law_bad_parts : Stmt := topS 62
theorem sc__law_bad_parts : FnScope ["half", "found"] [] (defScope s__law_bad_parts) := ⟨rfl, rfl, rfl, by decide +kernel, rfl, by decide +kernel, by decide +kernel⟩
abbrev s__law_error : Stmt := topS 63
theorem sc__law_error : FnScope ["call", "e", "pairs", "words", "word", "is_so"] ["call"] (defScope s__law_error) := ⟨rfl, rfl, rfl, by decide +kernel, rfl, by decide +kernel, by decide +kernel⟩
abbrev s__law_has_run : Stmt := topS 64
theorem sc__law_has_run : FnScope ["lot", "many", "k", "is_ring", "start", "step"] ["lot", "many", "k", "is_ring"] (defScope s__law_has_run) := ⟨rfl, rfl, rfl, by decide +kernel, rfl, by decide +kernel, by decide +kernel⟩
abbrev s__law_right : Stmt := topS 65
theorem sc__law_right : FnScope ["cup", "many", "parts", "k", "rows", "rings", "due", "told", "spot", "chance", "alike", "lot", "some"] ["cup", "many"] (defScope s__law_right) := ⟨rfl, rfl, rfl, by decide +kernel, rfl, by decide +kernel, by decide +kernel⟩
abbrev s__law_great_right : Stmt := topS 66
theorem sc__law_great_right : FnScope ["cup", "k", "rows", "n", "due", "rings", "twos", "told", "whole"] ["cup"] (defScope s__law_great_right) := ⟨rfl, rfl, rfl, by decide +kernel, rfl, by decide +kernel, by decide +kernel⟩
abbrev s__law_errors_right : Stmt := topS 67
theorem sc__law_errors_right : FnScope ["words", "odd", "k", "n", "name"] [] (defScope s__law_errors_right) := ⟨rfl, rfl, rfl, by decide +kernel, rfl, by decide +kernel, by decide +kernel⟩
abbrev s_law : Stmt := topS 68
theorem sc_law : FnScope ["script", "cup", "turn", "a", "told", "due"] ["script"] (defScope s_law) := ⟨rfl, rfl, rfl, by decide +kernel, rfl, by decide +kernel, by decide +kernel⟩
structure Top (F : Fx) (K : PySem.W.Frag) (mg : Str → Option Value) (base : Heap) : Prop where
  hF : F.K = K
  f_is_whole : FnC K mg "is_whole" "is_whole" s_is_whole
  f_need_whole : FnC K mg "need_whole" "need_whole" s_need_whole
  f_is_tuple_of : FnC K mg "is_tuple_of" "is_tuple_of" s_is_tuple_of
  f_is_portion : FnC K mg "is_portion" "is_portion" s_is_portion
  f_lowest : FnC K mg "lowest" "lowest" s_lowest
  f_plus : FnC K mg "plus" "plus" s_plus
  f_times : FnC K mg "times" "times" s_times
  f_is_chance : FnC K mg "is_chance" "is_chance" s_is_chance
  f_need_parts : FnC K mg "need_parts" "need_parts" s_need_parts
  f_rest_of : FnC K mg "rest_of" "rest_of" s_rest_of
  f_is_polynomial : FnC K mg "is_polynomial" "is_polynomial" s_is_polynomial
  f_need_polynomial : FnC K mg "need_polynomial" "need_polynomial" s_need_polynomial
  f_cut : FnC K mg "cut" "cut" s_cut
  f_add : FnC K mg "add" "add" s_add
  f_multiply : FnC K mg "multiply" "multiply" s_multiply
  f_value_at : FnC K mg "value_at" "value_at" s_value_at
  f_steps_in : FnC K mg "steps_in" "steps_in" s_steps_in
  f_sum_of : FnC K mg "sum_of" "sum_of" s_sum_of
  f_row_in : FnC K mg "row_in" "row_in" s_row_in
  f_ring_in : FnC K mg "ring_in" "ring_in" s_ring_in
  f_rows_in : FnC K mg "rows_in" "rows_in" s_rows_in
  f_rings_in : FnC K mg "rings_in" "rings_in" s_rings_in
  f_need_run : FnC K mg "need_run" "need_run" s_need_run
  f_row_without : FnC K mg "row_without" "row_without" s_row_without
  f_ring_without : FnC K mg "ring_without" "ring_without" s_ring_without
  f_count_rows : FnC K mg "count_rows" "count_rows" s_count_rows
  f_count_rings : FnC K mg "count_rings" "count_rings" s_count_rings
  f_run_polynomial : FnC K mg "run_polynomial" "run_polynomial" s_run_polynomial
  f__law_cup : FnC K mg "_law_cup" "_law_cup" s__law_cup
  f__law_roll : FnC K mg "_law_roll" "_law_roll" s__law_roll
  f__law_sort : FnC K mg "_law_sort" "_law_sort" s__law_sort
  f__law_like : FnC K mg "_law_like" "_law_like" s__law_like
  f__law_divisor : FnC K mg "_law_divisor" "_law_divisor" s__law_divisor
  f__law_plain : FnC K mg "_law_plain" "_law_plain" s__law_plain
  f__law_plus : FnC K mg "_law_plus" "_law_plus" s__law_plus
  f__law_total : FnC K mg "_law_total" "_law_total" s__law_total
  f__law_chance : FnC K mg "_law_chance" "_law_chance" s__law_chance
  f__law_parts : FnC K mg "_law_parts" "_law_parts" s__law_parts
  f__law_lots : FnC K mg "_law_lots" "_law_lots" s__law_lots
  f__law_lot_chance : FnC K mg "_law_lot_chance" "_law_lot_chance" s__law_lot_chance
  f__law_power : FnC K mg "_law_power" "_law_power" s__law_power
  f__law_bad_parts : FnC K mg "_law_bad_parts" "_law_bad_parts" s__law_bad_parts
  f__law_error : FnC K mg "_law_error" "_law_error" s__law_error
  f__law_has_run : FnC K mg "_law_has_run" "_law_has_run" s__law_has_run
  f__law_right : FnC K mg "_law_right" "_law_right" s__law_right
  f__law_great_right : FnC K mg "_law_great_right" "_law_great_right" s__law_great_right
  f__law_errors_right : FnCT F K mg base "_law_errors_right" "_law_errors_right" s__law_errors_right
  z_isinstance : mg "isinstance" = none
  z_int : mg "int" = none
  z_bool : mg "bool" = none
  z_tuple : mg "tuple" = none
  z_len : mg "len" = none
  z_all : mg "all" = none
  z_max : mg "max" = none
  z_list : mg "list" = none
  z_zip : mg "zip" = none
  z_enumerate : mg "enumerate" = none
  z_range : mg "range" = none
  z_sum : mg "sum" = none
  z_abs : mg "abs" = none
  z_str : mg "str" = none
  m_gcd : mg "gcd" = some (.builtin "math.gcd")
  c_GREAT : GlC F mg "GREAT" (.int 1000000000000000000000000000000000000000000000000000000000000)
  c_BOTTOM : GlC F mg "BOTTOM" (.int 1000)
  c_PARTS : GlC F mg "PARTS" (.int 12)
  c_LONG_polynomials : GlC F mg "LONG_polynomials" (.int 41)
  c_PART : GlC F mg "PART" (.int 1000000000000000000000000000000)
  c_RUN : GlC F mg "RUN" (.int 12)
  c_LONG_badruns : GlC F mg "LONG_badruns" (.int 40)
  c_MOST : GlC F mg "MOST" (.int 30)
  e_InvalidNumber : ErrC K mg "InvalidNumber" (F.ca 0)
  e_InvalidChances : ErrC K mg "InvalidChances" (F.ca 1)
  e_InvalidPolynomial : ErrC K mg "InvalidPolynomial" (F.ca 2)
  e_InvalidPortion : ErrC K mg "InvalidPortion" (F.ca 3)
  v_row_without : mg "row_without" = some (.ref (F.fa 0))
  v_ring_without : mg "ring_without" = some (.ref (F.fa 1))
  v_count_rows : mg "count_rows" = some (.ref (F.fa 2))
  v_count_rings : mg "count_rings" = some (.ref (F.fa 3))
  v_run_polynomial : mg "run_polynomial" = some (.ref (F.fa 4))
  root : mg "RoadError" = some (.ref (F.ca 4))
  xs : ∀ c, okE c = true → ExcC K (F.ca c)
  kt : ∀ c j, okE c = true → j < 4 → PySem.W.kitOne K (.ref (F.ca c)) (.ref (F.ca j)) = some (isT c j)
  ks : ∀ c, okE c = true → PySem.W.exmOne K (.ref (F.ca c)) (.ref (F.ca 4)) = some true
theorem dk_is_whole {F : Fx} {K : PySem.W.Frag} {mg : Str → Option Value} {P : Program} {w : World} {base : Heap} (T : Top F K mg base) : DOk F P w K mg base "is_whole" 1 3 (SpP F 3 g_is_whole) := by
  obtain ⟨f, fd, Fu, gm⟩ := T.f_is_whole
  refine ⟨⟨f, fd, _, fn_pure T.hF (body := b_is_whole) Fu sc_is_whole rfl (by decide) (fun cdv A outer s H E c => ?_) (fun ds _ => rfl), gm, Fu.kp, Fu.binds fun _ _ _ _ _ _ us hl => match us, hl with | [_, _, _], _ => rfl⟩⟩
  exact (pss_one' (ps_ret' (pv_and (pv_isi c (T := "int") T.z_isinstance T.z_int (by decide +kernel) (pv_var 0)) (pv_and (pv_not (pv_isi c (T := "bool") T.z_isinstance T.z_bool (by decide +kernel) (pv_var 0))) (pv_one (pv_ch2 cm_le cm_le (pv_var 1) (pv_var 0) (pv_var 2)))))))
theorem dk_need_whole {F : Fx} {K : PySem.W.Frag} {mg : Str → Option Value} {P : Program} {w : World} {base : Heap} (T : Top F K mg base) : DOk F P w K mg base "need_whole" 2 3 (SpP F 3 g_need_whole) := by
  obtain ⟨f, fd, Fu, gm⟩ := T.f_need_whole
  refine ⟨⟨f, fd, _, fn_pure T.hF (body := b_need_whole) Fu sc_need_whole rfl (by decide) (fun cdv A outer s H E c => ?_) (fun ds _ => rfl), gm, Fu.kp, Fu.binds fun _ _ _ _ _ _ us hl => match us, hl with | [_, _, _], _ => rfl⟩⟩
  exact (pss_one' (ps_if' (pb_not (pb_val (pv_call c (dk_is_whole T) (by decide) (pa_cons' (pv_var 0) (pa_cons' (pv_var 1) (pa_cons' (pv_var 2) pa_nil')))))) (pss_one' (ps_raise' c (ci := 0) T.e_InvalidNumber)) pss_nil'))
theorem dk_is_tuple_of {F : Fx} {K : PySem.W.Frag} {mg : Str → Option Value} {P : Program} {w : World} {base : Heap} (T : Top F K mg base) : DOk F P w K mg base "is_tuple_of" 1 3 (SpP F 3 g_is_tuple_of) := by
  obtain ⟨f, fd, Fu, gm⟩ := T.f_is_tuple_of
  refine ⟨⟨f, fd, _, fn_pure T.hF (body := b_is_tuple_of) Fu sc_is_tuple_of rfl (by decide) (fun cdv A outer s H E c => ?_) (fun ds _ => rfl), gm, Fu.kp, Fu.binds fun _ _ _ _ _ _ us hl => match us, hl with | [_, _, _], _ => rfl⟩⟩
  exact (pss_one' (ps_ret' (pv_and (pv_isi c (T := "tuple") T.z_isinstance T.z_tuple (by decide +kernel) (pv_var 0)) (pv_one (pv_ch2 cm_le cm_le (pv_var 1) (pv_len c T.z_len (pa_cons' (pv_var 0) pa_nil')) (pv_var 2))))))
theorem dk_is_portion {F : Fx} {K : PySem.W.Frag} {mg : Str → Option Value} {P : Program} {w : World} {base : Heap} (T : Top F K mg base) : DOk F P w K mg base "is_portion" 2 1 (SpP F 1 g_is_portion) := by
  obtain ⟨f, fd, Fu, gm⟩ := T.f_is_portion
  refine ⟨⟨f, fd, _, fn_pure T.hF (body := b_is_portion) Fu sc_is_portion rfl (by decide) (fun cdv A outer s H E c => ?_) (fun ds _ => rfl), gm, Fu.kp, Fu.binds fun _ _ _ _ _ _ us hl => match us, hl with | [_], _ => rfl⟩⟩
  exact (pss_cons' (ps_if' (PBW.pb (pb_or (pb_not (pb_val (pv_call c (dk_is_tuple_of T) (by decide) (pa_cons' (pv_var 0) (pa_cons' pv_int (pa_cons' pv_int pa_nil')))))) (pb_or (pb_not (pb_val (pv_call c (dk_is_whole T) (by decide) (pa_cons' (pv_ix c (pv_var 0) pv_int) (pa_cons' (pv_neg (pv_gl T.c_GREAT)) (pa_cons' (pv_gl T.c_GREAT) pa_nil')))))) (pb_or1 (pb_not (pb_val (pv_call c (dk_is_whole T) (by decide) (pa_cons' (pv_ix c (pv_var 0) pv_int) (pa_cons' pv_int (pa_cons' (pv_gl T.c_GREAT) pa_nil')))))))))) (pss_one' (ps_ret' pv_bl)) pss_nil')
    (pss_one' (ps_ret' (pv_cmp (cm_eq c) (pv_gcd T.m_gcd (pa_cons' (pv_ix c (pv_var 0) pv_int) (pa_cons' (pv_ix c (pv_var 0) pv_int) pa_nil'))) pv_int))))
theorem dk_lowest {F : Fx} {K : PySem.W.Frag} {mg : Str → Option Value} {P : Program} {w : World} {base : Heap} (T : Top F K mg base) : DOk F P w K mg base "lowest" 1 2 (SpP F 2 g_lowest) := by
  obtain ⟨f, fd, Fu, gm⟩ := T.f_lowest
  refine ⟨⟨f, fd, _, fn_pure T.hF (body := b_lowest) Fu sc_lowest rfl (by decide) (fun cdv A outer s H E c => ?_) (fun ds _ => rfl), gm, Fu.kp, Fu.binds fun _ _ _ _ _ _ us hl => match us, hl with | [_, _], _ => rfl⟩⟩
  exact (pss_cons' (ps_set' c (i := 2) (pv_gcd T.m_gcd (pa_cons' (pv_var 0) (pa_cons' (pv_var 1) pa_nil'))) (.inl rfl))
    (pss_cons' (ps_set' c (i := 2) (pv_ifExp (pb_cmp cm_gt (pv_var 1) pv_int) (pv_var 2) (pv_neg (pv_var 2))) (.inl rfl))
    (pss_one' (ps_ret' (pv_tup (pa_cons' (pv_div (pv_var 0) (pv_var 2)) (pa_cons' (pv_div (pv_var 1) (pv_var 2)) pa_nil')))))))
theorem dk_plus {F : Fx} {K : PySem.W.Frag} {mg : Str → Option Value} {P : Program} {w : World} {base : Heap} (T : Top F K mg base) : DOk F P w K mg base "plus" 2 2 (SpP F 2 g_plus) := by
  obtain ⟨f, fd, Fu, gm⟩ := T.f_plus
  refine ⟨⟨f, fd, _, fn_pure T.hF (body := b_plus) Fu sc_plus rfl (by decide) (fun cdv A outer s H E c => ?_) (fun ds _ => rfl), gm, Fu.kp, Fu.binds fun _ _ _ _ _ _ us hl => match us, hl with | [_, _], _ => rfl⟩⟩
  exact (pss_one' (ps_ret' (pv_call c (dk_lowest T) (by decide) (pa_cons' (pv_add c (pv_mul c (pv_ix c (pv_var 0) pv_int) (pv_ix c (pv_var 1) pv_int)) (pv_mul c (pv_ix c (pv_var 1) pv_int) (pv_ix c (pv_var 0) pv_int))) (pa_cons' (pv_mul c (pv_ix c (pv_var 0) pv_int) (pv_ix c (pv_var 1) pv_int)) pa_nil')))))
theorem dk_times {F : Fx} {K : PySem.W.Frag} {mg : Str → Option Value} {P : Program} {w : World} {base : Heap} (T : Top F K mg base) : DOk F P w K mg base "times" 2 2 (SpP F 2 g_times) := by
  obtain ⟨f, fd, Fu, gm⟩ := T.f_times
  refine ⟨⟨f, fd, _, fn_pure T.hF (body := b_times) Fu sc_times rfl (by decide) (fun cdv A outer s H E c => ?_) (fun ds _ => rfl), gm, Fu.kp, Fu.binds fun _ _ _ _ _ _ us hl => match us, hl with | [_, _], _ => rfl⟩⟩
  exact (pss_one' (ps_ret' (pv_call c (dk_lowest T) (by decide) (pa_cons' (pv_mul c (pv_ix c (pv_var 0) pv_int) (pv_ix c (pv_var 1) pv_int)) (pa_cons' (pv_mul c (pv_ix c (pv_var 0) pv_int) (pv_ix c (pv_var 1) pv_int)) pa_nil')))))
theorem dk_is_chance {F : Fx} {K : PySem.W.Frag} {mg : Str → Option Value} {P : Program} {w : World} {base : Heap} (T : Top F K mg base) : DOk F P w K mg base "is_chance" 3 1 (SpP F 1 g_is_chance) := by
  obtain ⟨f, fd, Fu, gm⟩ := T.f_is_chance
  refine ⟨⟨f, fd, _, fn_pure T.hF (body := b_is_chance) Fu sc_is_chance rfl (by decide) (fun cdv A outer s H E c => ?_) (fun ds _ => rfl), gm, Fu.kp, Fu.binds fun _ _ _ _ _ _ us hl => match us, hl with | [_], _ => rfl⟩⟩
  exact (pss_one' (ps_ret' (pv_and (pv_call c (dk_is_portion T) (by decide) (pa_cons' (pv_var 0) pa_nil')) (pv_one (pv_ch3 cm_le cm_le cm_le pv_int (pv_ix c (pv_var 0) pv_int) (pv_ix c (pv_var 0) pv_int) (pv_gl T.c_BOTTOM))))))
theorem dk_need_parts {F : Fx} {K : PySem.W.Frag} {mg : Str → Option Value} {P : Program} {w : World} {base : Heap} (T : Top F K mg base) : DOk F P w K mg base "need_parts" 4 1 (SpP F 1 g_need_parts) := by
  obtain ⟨f, fd, Fu, gm⟩ := T.f_need_parts
  refine ⟨⟨f, fd, _, fn_pure T.hF (body := b_need_parts) Fu sc_need_parts rfl (by decide) (fun cdv A outer s H E c => ?_) (fun ds _ => rfl), gm, Fu.kp, Fu.binds fun _ _ _ _ _ _ us hl => match us, hl with | [_], _ => rfl⟩⟩
  exact (pss_one' (ps_if' (PBW.pb (pb_or (pb_not (pb_val (pv_call c (dk_is_tuple_of T) (by decide) (pa_cons' (pv_var 0) (pa_cons' pv_int (pa_cons' (pv_gl T.c_PARTS) pa_nil')))))) (pb_or1 (pb_not (pb_val (pv_all c T.z_all (pa_cons' (PN.pv (pn_lc (own := [("part", 1)]) c (pit_seq c (pv_var 0)) (by rfl) (fun _ _ _ _ _ c' => (ptg_name (i := 1) c'.nd (.inl rfl))) (fun _ _ _ _ _ c' => pts_nil') (fun _ _ _ _ _ c' => (pv_call c' (dk_is_chance T) (by decide) (pa_cons' (pv_var 1) pa_nil'))) (.inl rfl) (by decide))) pa_nil'))))))) (pss_one' (ps_raise' c (ci := 1) T.e_InvalidChances)) pss_nil'))
theorem dk_rest_of {F : Fx} {K : PySem.W.Frag} {mg : Str → Option Value} {P : Program} {w : World} {base : Heap} (T : Top F K mg base) : DOk F P w K mg base "rest_of" 1 1 (SpP F 1 g_rest_of) := by
  obtain ⟨f, fd, Fu, gm⟩ := T.f_rest_of
  refine ⟨⟨f, fd, _, fn_pure T.hF (body := b_rest_of) Fu sc_rest_of rfl (by decide) (fun cdv A outer s H E c => ?_) (fun ds _ => rfl), gm, Fu.kp, Fu.binds fun _ _ _ _ _ _ us hl => match us, hl with | [_], _ => rfl⟩⟩
  exact (pss_one' (ps_ret' (pv_tup (pa_cons' (pv_sub (pv_ix c (pv_var 0) pv_int) (pv_ix c (pv_var 0) pv_int)) (pa_cons' (pv_ix c (pv_var 0) pv_int) pa_nil')))))
theorem dk_is_polynomial {F : Fx} {K : PySem.W.Frag} {mg : Str → Option Value} {P : Program} {w : World} {base : Heap} (T : Top F K mg base) : DOk F P w K mg base "is_polynomial" 2 1 (SpP F 1 g_is_polynomial) := by
  obtain ⟨f, fd, Fu, gm⟩ := T.f_is_polynomial
  refine ⟨⟨f, fd, _, fn_pure T.hF (body := b_is_polynomial) Fu sc_is_polynomial rfl (by decide) (fun cdv A outer s H E c => ?_) (fun ds _ => rfl), gm, Fu.kp, Fu.binds fun _ _ _ _ _ _ us hl => match us, hl with | [_], _ => rfl⟩⟩
  exact (pss_cons' (ps_if' (PBW.pb (pb_or (pb_not (pb_val (pv_call c (dk_is_tuple_of T) (by decide) (pa_cons' (pv_var 0) (pa_cons' pv_int (pa_cons' (pv_gl T.c_LONG_polynomials) pa_nil')))))) (pb_or1 (pb_not (pb_val (pv_all c T.z_all (pa_cons' (PN.pv (pn_lc (own := [("part", 1)]) c (pit_seq c (pv_var 0)) (by rfl) (fun _ _ _ _ _ c' => (ptg_name (i := 1) c'.nd (.inl rfl))) (fun _ _ _ _ _ c' => pts_nil') (fun _ _ _ _ _ c' => (pv_call c' (dk_is_whole T) (by decide) (pa_cons' (pv_var 1) (pa_cons' (pv_neg (pv_gl T.c_PART)) (pa_cons' (pv_gl T.c_PART) pa_nil'))))) (.inl rfl) (by decide))) pa_nil'))))))) (pss_one' (ps_ret' pv_bl)) pss_nil')
    (pss_one' (ps_ret' (pv_or (pv_cmp (cm_eq c) (pv_var 0) (pv_tup pa_nil')) (pv_one (pv_cmp (cm_ne c) (pv_ix c (pv_var 0) (pv_neg pv_int)) pv_int))))))
theorem dk_need_polynomial {F : Fx} {K : PySem.W.Frag} {mg : Str → Option Value} {P : Program} {w : World} {base : Heap} (T : Top F K mg base) : DOk F P w K mg base "need_polynomial" 3 1 (SpP F 1 g_need_polynomial) := by
  obtain ⟨f, fd, Fu, gm⟩ := T.f_need_polynomial
  refine ⟨⟨f, fd, _, fn_pure T.hF (body := b_need_polynomial) Fu sc_need_polynomial rfl (by decide) (fun cdv A outer s H E c => ?_) (fun ds _ => rfl), gm, Fu.kp, Fu.binds fun _ _ _ _ _ _ us hl => match us, hl with | [_], _ => rfl⟩⟩
  exact (pss_one' (ps_if' (pb_not (pb_val (pv_call c (dk_is_polynomial T) (by decide) (pa_cons' (pv_var 0) pa_nil')))) (pss_one' (ps_raise' c (ci := 2) T.e_InvalidPolynomial)) pss_nil'))
theorem dk_cut {F : Fx} {K : PySem.W.Frag} {mg : Str → Option Value} {P : Program} {w : World} {base : Heap} (T : Top F K mg base) : DOk F P w K mg base "cut" 1 1 (SpP F 1 g_cut) := by
  obtain ⟨f, fd, Fu, gm⟩ := T.f_cut
  refine ⟨⟨f, fd, _, fn_pure T.hF (body := b_cut) Fu sc_cut rfl (by decide) (fun cdv A outer s H E c => ?_) (fun ds _ => rfl), gm, Fu.kp, Fu.binds fun _ _ _ _ _ _ us hl => match us, hl with | [_], _ => rfl⟩⟩
  exact (pss_cons' (ps_set' c (i := 1) (pv_len c T.z_len (pa_cons' (pv_var 0) pa_nil')) (.inl rfl))
    (pss_cons' (ps_while' c 1000000 (PBW.pb (pb_and (pb_cmp cm_gt (pv_var 1) pv_int) (pb_and1 (pb_cmp (cm_eq c) (pv_ix c (pv_var 0) (pv_sub (pv_var 1) pv_int)) pv_int)))) (pss_one' (ps_set' c (i := 1) (pv_sub (pv_var 1) pv_int) (.inl rfl))))
    (pss_one' (ps_ret' (pv_tuple c T.z_tuple (pa_cons' (pv_slice c (pv_var 0) po_none' (po_some' (pv_var 1))) pa_nil'))))))
theorem dk_add {F : Fx} {K : PySem.W.Frag} {mg : Str → Option Value} {P : Program} {w : World} {base : Heap} (T : Top F K mg base) : DOk F P w K mg base "add" 2 2 (SpP F 2 g_add) := by
  obtain ⟨f, fd, Fu, gm⟩ := T.f_add
  refine ⟨⟨f, fd, _, fn_pure T.hF (body := b_add) Fu sc_add rfl (by decide) (fun cdv A outer s H E c => ?_) (fun ds _ => rfl), gm, Fu.kp, Fu.binds fun _ _ _ _ _ _ us hl => match us, hl with | [_, _], _ => rfl⟩⟩
  exact (pss_cons' (ps_set' c (i := 2) (pv_max2 c T.z_max (pa_cons' (pv_len c T.z_len (pa_cons' (pv_var 0) pa_nil')) (pa_cons' (pv_len c T.z_len (pa_cons' (pv_var 1) pa_nil')) pa_nil'))) (.inl rfl))
    (pss_cons' (ps_par2' c (i := 3) (j := 4) (psl_p (pv_add c (PN.pv (pn_list c T.z_list (pa_cons' (pv_var 0) pa_nil'))) (pv_mul c (PN.pv (pn_lst (pa_cons' pv_int pa_nil'))) (pv_sub (pv_var 2) (pv_len c T.z_len (pa_cons' (pv_var 0) pa_nil')))))) (psl_p (pv_add c (PN.pv (pn_list c T.z_list (pa_cons' (pv_var 1) pa_nil'))) (pv_mul c (PN.pv (pn_lst (pa_cons' pv_int pa_nil'))) (pv_sub (pv_var 2) (pv_len c T.z_len (pa_cons' (pv_var 1) pa_nil')))))) (.inl rfl) (.inl rfl) (by decide))
    (pss_one' (ps_ret' (pv_call c (dk_cut T) (by decide) (pa_cons' (PN.pv (pn_lc (own := [("part", 5), ("further", 6)]) c (pit_zip c T.z_zip (pa_cons' (pv_var 3) (pa_cons' (pv_var 4) pa_nil'))) (by rfl) (fun _ _ _ _ _ c' => (ptg_tup c' (ptgs_cons (ptg_name (i := 5) c'.nd (.inl rfl)) (ptgs_cons (ptg_name (i := 6) c'.nd (.inl rfl)) ptgs_nil)))) (fun _ _ _ _ _ c' => pts_nil') (fun _ _ _ _ _ c' => (pv_add c' (pv_var 5) (pv_var 6))) (.inl rfl) (by decide))) pa_nil'))))))
theorem dk_multiply {F : Fx} {K : PySem.W.Frag} {mg : Str → Option Value} {P : Program} {w : World} {base : Heap} (T : Top F K mg base) : DOk F P w K mg base "multiply" 2 2 (SpP F 2 g_multiply) := by
  obtain ⟨f, fd, Fu, gm⟩ := T.f_multiply
  refine ⟨⟨f, fd, _, fn_pure T.hF (body := b_multiply) Fu sc_multiply rfl (by decide) (fun cdv A outer s H E c => ?_) (fun ds _ => rfl), gm, Fu.kp, Fu.binds fun _ _ _ _ _ _ us hl => match us, hl with | [_, _], _ => rfl⟩⟩
  exact (pss_cons' (ps_own' c (i := 2) (pn_mul c (PN.pv (pn_lst (pa_cons' pv_int pa_nil'))) (pv_max2 c T.z_max (pa_cons' (pv_sub (pv_add c (pv_len c T.z_len (pa_cons' (pv_var 0) pa_nil')) (pv_len c T.z_len (pa_cons' (pv_var 1) pa_nil'))) pv_int) (pa_cons' pv_int pa_nil')))) (.inl rfl))
    (pss_cons' (ps_for' c (pit_enum c T.z_enumerate (pa_cons' (pv_var 0) pa_nil')) (ptg_tup c (ptgs_cons (ptg_name (i := 3) c.nd (.inl rfl)) (ptgs_cons (ptg_name (i := 4) c.nd (.inl rfl)) ptgs_nil))) (pss_one' (ps_for' c (pit_enum c T.z_enumerate (pa_cons' (pv_var 1) pa_nil')) (ptg_tup c (ptgs_cons (ptg_name (i := 5) c.nd (.inl rfl)) (ptgs_cons (ptg_name (i := 6) c.nd (.inl rfl)) ptgs_nil))) (pss_one' (ps_setIx' (i := 2) (pv_add c (pv_ixV c 2 (pv_add c (pv_var 3) (pv_var 5))) (pv_mul c (pv_var 4) (pv_var 6))) (pv_add c (pv_var 3) (pv_var 5)))))))
    (pss_one' (ps_ret' (pv_call c (dk_cut T) (by decide) (pa_cons' (pv_frz 2 (.inl rfl)) pa_nil'))))))
theorem dk_value_at {F : Fx} {K : PySem.W.Frag} {mg : Str → Option Value} {P : Program} {w : World} {base : Heap} (T : Top F K mg base) : DOk F P w K mg base "value_at" 4 2 (SpP F 2 g_value_at) := by
  obtain ⟨f, fd, Fu, gm⟩ := T.f_value_at
  refine ⟨⟨f, fd, _, fn_pure T.hF (body := b_value_at) Fu sc_value_at rfl (by decide) (fun cdv A outer s H E c => ?_) (fun ds _ => rfl), gm, Fu.kp, Fu.binds fun _ _ _ _ _ _ us hl => match us, hl with | [_, _], _ => rfl⟩⟩
  exact (pss_cons' (ps_expr' (pv_call c (dk_need_polynomial T) (by decide) (pa_cons' (pv_var 0) pa_nil')))
    (pss_cons' (ps_if' (pb_not (pb_val (pv_call c (dk_is_portion T) (by decide) (pa_cons' (pv_var 1) pa_nil')))) (pss_one' (ps_raise' c (ci := 3) T.e_InvalidPortion)) pss_nil')
    (pss_cons' (ps_tg' (pv_tup (pa_cons' pv_int (pa_cons' pv_int pa_nil'))) (ptg_tup c (ptgs_cons (ptg_name (i := 2) c.nd (.inl rfl)) (ptgs_cons (ptg_name (i := 3) c.nd (.inl rfl)) ptgs_nil))))
    (pss_cons' (ps_for' c (pit_seq c (pv_back c (pv_var 0) po_none' po_none')) (ptg_name (i := 4) c.nd (.inl rfl)) (pss_one' (ps_par2' c (i := 2) (j := 3) (psl_p (pv_add c (pv_mul c (pv_var 2) (pv_ix c (pv_var 1) pv_int)) (pv_mul c (pv_mul c (pv_var 4) (pv_var 3)) (pv_ix c (pv_var 1) pv_int)))) (psl_p (pv_mul c (pv_var 3) (pv_ix c (pv_var 1) pv_int))) (.inl rfl) (.inl rfl) (by decide))))
    (pss_one' (ps_ret' (pv_call c (dk_lowest T) (by decide) (pa_cons' (pv_var 2) (pa_cons' (pv_var 3) pa_nil')))))))))
theorem dk_steps_in {F : Fx} {K : PySem.W.Frag} {mg : Str → Option Value} {P : Program} {w : World} {base : Heap} (T : Top F K mg base) : DOk F P w K mg base "steps_in" 3 2 (SpP F 2 g_steps_in) := by
  obtain ⟨f, fd, Fu, gm⟩ := T.f_steps_in
  refine ⟨⟨f, fd, _, fn_pure T.hF (body := b_steps_in) Fu sc_steps_in rfl (by decide) (fun cdv A outer s H E c => ?_) (fun ds _ => rfl), gm, Fu.kp, Fu.binds fun _ _ _ _ _ _ us hl => match us, hl with | [_, _], _ => rfl⟩⟩
  exact (pss_cons' (ps_for' c (pit_seq c (pv_var 0)) (ptg_name (i := 2) c.nd (.inl rfl)) (pss_cons' (ps_set' c (i := 3) (pv_tup (pa_cons' pv_int (pa_cons' pv_int pa_nil'))) (.inl rfl))
    (pss_cons' (ps_for' c (pit_seq c (pv_var 1)) (ptg_name (i := 4) c.nd (.inl rfl)) (pss_one' (ps_set' c (i := 3) (pv_call c (dk_plus T) (by decide) (pa_cons' (pv_var 3) (pa_cons' (pv_var 4) pa_nil'))) (.inl rfl))))
    (pss_one' (ps_set' c (i := 1) (pv_add c (PN.pv (pn_lst (pa_cons' (pv_call c (dk_times T) (by decide) (pa_cons' (pv_var 3) (pa_cons' (pv_var 2) pa_nil'))) pa_nil'))) (PN.pv (pn_lc (own := [("own", 4)]) c (pit_seq c (pv_slice c (pv_var 1) po_none' (po_some' (pv_neg pv_int)))) (by rfl) (fun _ _ _ _ _ c' => (ptg_name (i := 4) c'.nd (.inl rfl))) (fun _ _ _ _ _ c' => pts_nil') (fun _ _ _ _ _ c' => (pv_call c' (dk_times T) (by decide) (pa_cons' (pv_var 4) (pa_cons' (pv_call c' (dk_rest_of T) (by decide) (pa_cons' (pv_var 2) pa_nil')) pa_nil')))) (.inl rfl) (by decide)))) (.inl rfl))))))
    (pss_one' (ps_ret' (pv_var 1))))
theorem dk_sum_of {F : Fx} {K : PySem.W.Frag} {mg : Str → Option Value} {P : Program} {w : World} {base : Heap} (T : Top F K mg base) : DOk F P w K mg base "sum_of" 3 1 (SpP F 1 g_sum_of) := by
  obtain ⟨f, fd, Fu, gm⟩ := T.f_sum_of
  refine ⟨⟨f, fd, _, fn_pure T.hF (body := b_sum_of) Fu sc_sum_of rfl (by decide) (fun cdv A outer s H E c => ?_) (fun ds _ => rfl), gm, Fu.kp, Fu.binds fun _ _ _ _ _ _ us hl => match us, hl with | [_], _ => rfl⟩⟩
  exact (pss_cons' (ps_set' c (i := 1) (pv_tup (pa_cons' pv_int (pa_cons' pv_int pa_nil'))) (.inl rfl))
    (pss_cons' (ps_for' c (pit_seq c (pv_var 0)) (ptg_name (i := 2) c.nd (.inl rfl)) (pss_one' (ps_set' c (i := 1) (pv_call c (dk_plus T) (by decide) (pa_cons' (pv_var 1) (pa_cons' (pv_var 2) pa_nil'))) (.inl rfl))))
    (pss_one' (ps_ret' (pv_var 1)))))
theorem dk_row_in {F : Fx} {K : PySem.W.Frag} {mg : Str → Option Value} {P : Program} {w : World} {base : Heap} (T : Top F K mg base) : DOk F P w K mg base "row_in" 4 2 (SpP F 2 g_row_in) := by
  obtain ⟨f, fd, Fu, gm⟩ := T.f_row_in
  refine ⟨⟨f, fd, _, fn_pure T.hF (body := b_row_in) Fu sc_row_in rfl (by decide) (fun cdv A outer s H E c => ?_) (fun ds _ => rfl), gm, Fu.kp, Fu.binds fun _ _ _ _ _ _ us hl => match us, hl with | [_, _], _ => rfl⟩⟩
  exact (pss_one' (ps_ret' (pv_call c (dk_sum_of T) (by decide) (pa_cons' (pv_call c (dk_steps_in T) (by decide) (pa_cons' (pv_var 0) (pa_cons' (pv_add c (PN.pv (pn_lst (pa_cons' (pv_tup (pa_cons' pv_int (pa_cons' pv_int pa_nil'))) pa_nil'))) (pv_mul c (PN.pv (pn_lst (pa_cons' (pv_tup (pa_cons' pv_int (pa_cons' pv_int pa_nil'))) pa_nil'))) (pv_sub (pv_var 1) pv_int))) pa_nil'))) pa_nil'))))
theorem dk_ring_in {F : Fx} {K : PySem.W.Frag} {mg : Str → Option Value} {P : Program} {w : World} {base : Heap} (T : Top F K mg base) : DOk F P w K mg base "ring_in" 4 2 (SpP F 2 g_ring_in) := by
  obtain ⟨f, fd, Fu, gm⟩ := T.f_ring_in
  refine ⟨⟨f, fd, _, fn_pure T.hF (body := b_ring_in) Fu sc_ring_in rfl (by decide) (fun cdv A outer s H E c => ?_) (fun ds _ => rfl), gm, Fu.kp, Fu.binds fun _ _ _ _ _ _ us hl => match us, hl with | [_, _], _ => rfl⟩⟩
  exact (pss_cons' (ps_if' (pb_cmp cm_gt (pv_var 1) (pv_len c T.z_len (pa_cons' (pv_var 0) pa_nil'))) (pss_one' (ps_ret' (pv_tup (pa_cons' pv_int (pa_cons' pv_int pa_nil'))))) pss_nil')
    (pss_cons' (ps_tg' (pv_tup (pa_cons' (pv_tup (pa_cons' pv_int (pa_cons' pv_int pa_nil'))) (pa_cons' (pv_tup (pa_cons' pv_int (pa_cons' pv_int pa_nil'))) pa_nil'))) (ptg_tup c (ptgs_cons (ptg_name (i := 2) c.nd (.inl rfl)) (ptgs_cons (ptg_name (i := 3) c.nd (.inl rfl)) ptgs_nil))))
    (pss_cons' (ps_for' c (pit_range1 T.z_range (pa_cons' (pv_var 1) pa_nil')) (ptg_name (i := 4) c.nd (.inl rfl)) (pss_cons' (ps_set' c (i := 5) (pv_call c (dk_times T) (by decide) (pa_cons' (pv_var 3) (pa_cons' (pv_ix c (pv_var 0) (pv_var 4)) pa_nil'))) (.inl rfl))
    (pss_cons' (ps_set' c (i := 6) (pv_call c (dk_steps_in T) (by decide) (pa_cons' (pv_slice c (pv_var 0) (po_some' (pv_add c (pv_var 4) pv_int)) po_none') (pa_cons' (pv_add c (PN.pv (pn_lst (pa_cons' (pv_var 5) pa_nil'))) (pv_mul c (PN.pv (pn_lst (pa_cons' (pv_tup (pa_cons' pv_int (pa_cons' pv_int pa_nil'))) pa_nil'))) (pv_sub (pv_var 1) pv_int))) pa_nil'))) (.inl rfl))
    (pss_cons' (ps_set' c (i := 2) (pv_call c (dk_plus T) (by decide) (pa_cons' (pv_var 2) (pa_cons' (pv_call c (dk_sum_of T) (by decide) (pa_cons' (pv_slice c (pv_var 6) po_none' (po_some' (pv_sub (pv_var 1) (pv_var 4)))) pa_nil')) pa_nil'))) (.inl rfl))
    (pss_one' (ps_set' c (i := 3) (pv_call c (dk_times T) (by decide) (pa_cons' (pv_var 3) (pa_cons' (pv_call c (dk_rest_of T) (by decide) (pa_cons' (pv_ix c (pv_var 0) (pv_var 4)) pa_nil')) pa_nil'))) (.inl rfl)))))))
    (pss_one' (ps_ret' (pv_var 2))))))
theorem dk_rows_in {F : Fx} {K : PySem.W.Frag} {mg : Str → Option Value} {P : Program} {w : World} {base : Heap} (T : Top F K mg base) : DOk F P w K mg base "rows_in" 1 2 (SpP F 2 g_rows_in) := by
  obtain ⟨f, fd, Fu, gm⟩ := T.f_rows_in
  refine ⟨⟨f, fd, _, fn_pure T.hF (body := b_rows_in) Fu sc_rows_in rfl (by decide) (fun cdv A outer s H E c => ?_) (fun ds _ => rfl), gm, Fu.kp, Fu.binds fun _ _ _ _ _ _ us hl => match us, hl with | [_, _], _ => rfl⟩⟩
  exact (pss_cons' (ps_own' c (i := 2) (pn_lst pa_nil') (.inl rfl))
    (pss_cons' (ps_for' c (pit_range1 T.z_range (pa_cons' (pv_add c (pv_var 0) pv_int) pa_nil')) (ptg_name (i := 3) c.nd (.inl rfl)) (pss_one' (ps_append' (i := 2) (pv_ifExp (pb_cmp cm_ge (pv_var 3) (pv_var 1)) (pv_sum c T.z_sum (pa_cons' (pv_slV c 2 (po_some' (pv_sub (pv_var 3) (pv_var 1))) po_none') pa_nil')) (pv_shl pv_int (pv_var 3))))))
    (pss_one' (ps_ret' (pv_frz 2 (.inl rfl))))))
theorem dk_rings_in {F : Fx} {K : PySem.W.Frag} {mg : Str → Option Value} {P : Program} {w : World} {base : Heap} (T : Top F K mg base) : DOk F P w K mg base "rings_in" 2 2 (SpP F 2 g_rings_in) := by
  obtain ⟨f, fd, Fu, gm⟩ := T.f_rings_in
  refine ⟨⟨f, fd, _, fn_pure T.hF (body := b_rings_in) Fu sc_rings_in rfl (by decide) (fun cdv A outer s H E c => ?_) (fun ds _ => rfl), gm, Fu.kp, Fu.binds fun _ _ _ _ _ _ us hl => match us, hl with | [_, _], _ => rfl⟩⟩
  exact (pss_cons' (ps_if' (pb_cmp cm_gt (pv_var 1) (pv_var 0)) (pss_one' (ps_ret' (pv_shl pv_int (pv_var 0)))) pss_nil')
    (pss_cons' (ps_par2' c (i := 2) (j := 3) (psl_p (pv_call c (dk_rows_in T) (by decide) (pa_cons' (pv_var 0) (pa_cons' (pv_var 1) pa_nil')))) (psl_p pv_int) (.inl rfl) (.inl rfl) (by decide))
    (pss_cons' (ps_for' c (pit_range1 T.z_range (pa_cons' (pv_var 1) pa_nil')) (ptg_name (i := 4) c.nd (.inl rfl)) (pss_one' (ps_for' c (pit_range1 T.z_range (pa_cons' (pv_sub (pv_var 1) (pv_var 4)) pa_nil')) (ptg_name (i := 5) c.nd (.inl rfl)) (pss_cons' (ps_set' c (i := 6) (pv_sub (pv_sub (pv_sub (pv_var 0) (pv_var 4)) (pv_var 5)) pv_int) (.inl rfl))
    (pss_one' (ps_if' (pb_cmp cm_ge (pv_var 6) pv_int) (pss_one' (ps_set' c (i := 3) (pv_add c (pv_var 3) (pv_ix c (pv_var 2) (pv_var 6))) (.inl rfl))) (pss_one' (ps_if' (pb_cmp (cm_eq c) (pv_var 6) (pv_neg pv_int)) (pss_one' (ps_set' c (i := 3) (pv_add c (pv_var 3) pv_int) (.inl rfl))) pss_nil'))))))))
    (pss_one' (ps_ret' (pv_var 3))))))
theorem dk_need_run {F : Fx} {K : PySem.W.Frag} {mg : Str → Option Value} {P : Program} {w : World} {base : Heap} (T : Top F K mg base) : DOk F P w K mg base "need_run" 3 1 (SpP F 1 g_need_run) := by
  obtain ⟨f, fd, Fu, gm⟩ := T.f_need_run
  refine ⟨⟨f, fd, _, fn_pure T.hF (body := b_need_run) Fu sc_need_run rfl (by decide) (fun cdv A outer s H E c => ?_) (fun ds _ => rfl), gm, Fu.kp, Fu.binds fun _ _ _ _ _ _ us hl => match us, hl with | [_], _ => rfl⟩⟩
  exact (pss_one' (ps_expr' (pv_call c (dk_need_whole T) (by decide) (pa_cons' (pv_var 0) (pa_cons' pv_int (pa_cons' (pv_gl T.c_RUN) pa_nil'))))))
theorem dk_row_without {F : Fx} {K : PySem.W.Frag} {mg : Str → Option Value} {P : Program} {w : World} {base : Heap} (T : Top F K mg base) : DOk F P w K mg base "row_without" 5 2 (SpP F 2 g_row_without) := by
  obtain ⟨f, fd, Fu, gm⟩ := T.f_row_without
  refine ⟨⟨f, fd, _, fn_pure T.hF (body := b_row_without) Fu sc_row_without rfl (by decide) (fun cdv A outer s H E c => ?_) (fun ds _ => rfl), gm, Fu.kp, Fu.binds fun _ _ _ _ _ _ us hl => match us, hl with | [_, _], _ => rfl⟩⟩
  exact (pss_cons' (ps_expr' (pv_call c (dk_need_parts T) (by decide) (pa_cons' (pv_var 0) pa_nil')))
    (pss_cons' (ps_expr' (pv_call c (dk_need_run T) (by decide) (pa_cons' (pv_var 1) pa_nil')))
    (pss_one' (ps_ret' (pv_call c (dk_row_in T) (by decide) (pa_cons' (pv_var 0) (pa_cons' (pv_var 1) pa_nil')))))))
theorem dk_ring_without {F : Fx} {K : PySem.W.Frag} {mg : Str → Option Value} {P : Program} {w : World} {base : Heap} (T : Top F K mg base) : DOk F P w K mg base "ring_without" 5 2 (SpP F 2 g_ring_without) := by
  obtain ⟨f, fd, Fu, gm⟩ := T.f_ring_without
  refine ⟨⟨f, fd, _, fn_pure T.hF (body := b_ring_without) Fu sc_ring_without rfl (by decide) (fun cdv A outer s H E c => ?_) (fun ds _ => rfl), gm, Fu.kp, Fu.binds fun _ _ _ _ _ _ us hl => match us, hl with | [_, _], _ => rfl⟩⟩
  exact (pss_cons' (ps_expr' (pv_call c (dk_need_parts T) (by decide) (pa_cons' (pv_var 0) pa_nil')))
    (pss_cons' (ps_expr' (pv_call c (dk_need_run T) (by decide) (pa_cons' (pv_var 1) pa_nil')))
    (pss_one' (ps_ret' (pv_call c (dk_ring_in T) (by decide) (pa_cons' (pv_var 0) (pa_cons' (pv_var 1) pa_nil')))))))
theorem dk_count_rows {F : Fx} {K : PySem.W.Frag} {mg : Str → Option Value} {P : Program} {w : World} {base : Heap} (T : Top F K mg base) : DOk F P w K mg base "count_rows" 4 2 (SpP F 2 g_count_rows) := by
  obtain ⟨f, fd, Fu, gm⟩ := T.f_count_rows
  refine ⟨⟨f, fd, _, fn_pure T.hF (body := b_count_rows) Fu sc_count_rows rfl (by decide) (fun cdv A outer s H E c => ?_) (fun ds _ => rfl), gm, Fu.kp, Fu.binds fun _ _ _ _ _ _ us hl => match us, hl with | [_, _], _ => rfl⟩⟩
  exact (pss_cons' (ps_expr' (pv_call c (dk_need_whole T) (by decide) (pa_cons' (pv_var 0) (pa_cons' pv_int (pa_cons' (pv_gl T.c_LONG_badruns) pa_nil')))))
    (pss_cons' (ps_expr' (pv_call c (dk_need_run T) (by decide) (pa_cons' (pv_var 1) pa_nil')))
    (pss_one' (ps_ret' (pv_ix c (pv_call c (dk_rows_in T) (by decide) (pa_cons' (pv_var 0) (pa_cons' (pv_var 1) pa_nil'))) (pv_var 0))))))
theorem dk_count_rings {F : Fx} {K : PySem.W.Frag} {mg : Str → Option Value} {P : Program} {w : World} {base : Heap} (T : Top F K mg base) : DOk F P w K mg base "count_rings" 4 2 (SpP F 2 g_count_rings) := by
  obtain ⟨f, fd, Fu, gm⟩ := T.f_count_rings
  refine ⟨⟨f, fd, _, fn_pure T.hF (body := b_count_rings) Fu sc_count_rings rfl (by decide) (fun cdv A outer s H E c => ?_) (fun ds _ => rfl), gm, Fu.kp, Fu.binds fun _ _ _ _ _ _ us hl => match us, hl with | [_, _], _ => rfl⟩⟩
  exact (pss_cons' (ps_expr' (pv_call c (dk_need_whole T) (by decide) (pa_cons' (pv_var 0) (pa_cons' pv_int (pa_cons' (pv_gl T.c_LONG_badruns) pa_nil')))))
    (pss_cons' (ps_expr' (pv_call c (dk_need_run T) (by decide) (pa_cons' (pv_var 1) pa_nil')))
    (pss_one' (ps_ret' (pv_call c (dk_rings_in T) (by decide) (pa_cons' (pv_var 0) (pa_cons' (pv_var 1) pa_nil')))))))
theorem dk_run_polynomial {F : Fx} {K : PySem.W.Frag} {mg : Str → Option Value} {P : Program} {w : World} {base : Heap} (T : Top F K mg base) : DOk F P w K mg base "run_polynomial" 4 2 (SpP F 2 g_run_polynomial) := by
  obtain ⟨f, fd, Fu, gm⟩ := T.f_run_polynomial
  refine ⟨⟨f, fd, _, fn_pure T.hF (body := b_run_polynomial) Fu sc_run_polynomial rfl (by decide) (fun cdv A outer s H E c => ?_) (fun ds _ => rfl), gm, Fu.kp, Fu.binds fun _ _ _ _ _ _ us hl => match us, hl with | [_, _], _ => rfl⟩⟩
  exact (pss_cons' (ps_expr' (pv_call c (dk_need_whole T) (by decide) (pa_cons' (pv_var 0) (pa_cons' pv_int (pa_cons' (pv_gl T.c_MOST) pa_nil')))))
    (pss_cons' (ps_expr' (pv_call c (dk_need_run T) (by decide) (pa_cons' (pv_var 1) pa_nil')))
    (pss_cons' (ps_set' c (i := 2) (pv_add c (PN.pv (pn_lst (pa_cons' (pv_tup (pa_cons' pv_int pa_nil')) pa_nil'))) (pv_mul c (PN.pv (pn_lst (pa_cons' (pv_tup pa_nil') pa_nil'))) (pv_sub (pv_var 1) pv_int))) (.inl rfl))
    (pss_cons' (ps_for' c (pit_range1 T.z_range (pa_cons' (pv_var 0) pa_nil')) (ptg_name (i := 3) c.nd (.inl rfl)) (pss_cons' (ps_set' c (i := 4) (pv_tup pa_nil') (.inl rfl))
    (pss_cons' (ps_for' c (pit_seq c (pv_var 2)) (ptg_name (i := 5) c.nd (.inl rfl)) (pss_one' (ps_set' c (i := 4) (pv_call c (dk_add T) (by decide) (pa_cons' (pv_var 4) (pa_cons' (pv_var 5) pa_nil'))) (.inl rfl))))
    (pss_one' (ps_set' c (i := 2) (pv_add c (PN.pv (pn_lst (pa_cons' (pv_call c (dk_multiply T) (by decide) (pa_cons' (pv_var 4) (pa_cons' (pv_tup (pa_cons' pv_int (pa_cons' pv_int pa_nil'))) pa_nil'))) pa_nil'))) (PN.pv (pn_lc (own := [("own", 5)]) c (pit_seq c (pv_slice c (pv_var 2) po_none' (po_some' (pv_neg pv_int)))) (by rfl) (fun _ _ _ _ _ c' => (ptg_name (i := 5) c'.nd (.inl rfl))) (fun _ _ _ _ _ c' => pts_nil') (fun _ _ _ _ _ c' => (pv_call c' (dk_multiply T) (by decide) (pa_cons' (pv_var 5) (pa_cons' (pv_tup (pa_cons' pv_int (pa_cons' (pv_neg pv_int) pa_nil'))) pa_nil')))) (.inl rfl) (by decide)))) (.inl rfl))))))
    (pss_cons' (ps_set' c (i := 6) (pv_tup pa_nil') (.inl rfl))
    (pss_cons' (ps_for' c (pit_seq c (pv_var 2)) (ptg_name (i := 5) c.nd (.inl rfl)) (pss_one' (ps_set' c (i := 6) (pv_call c (dk_add T) (by decide) (pa_cons' (pv_var 6) (pa_cons' (pv_var 5) pa_nil'))) (.inl rfl))))
    (pss_one' (ps_ret' (pv_var 6)))))))))
theorem dk__law_cup {F : Fx} {K : PySem.W.Frag} {mg : Str → Option Value} {P : Program} {w : World} {base : Heap} (T : Top F K mg base) : DOk F P w K mg base "_law_cup" 1 1 (SpN F 1 g__law_cup) := by
  obtain ⟨f, fd, Fu, gm⟩ := T.f__law_cup
  refine ⟨⟨f, fd, _, fn_new T.hF (f1 := b1__law_cup) (f2 := b2__law_cup) Fu sc__law_cup rfl (by decide) rfl (fun cdv A outer s H E c => ⟨?_, ?_⟩) (fun ds es _ h => ?_), gm, Fu.kp, Fu.binds fun _ _ _ _ _ _ us hl => match us, hl with | [_], _ => rfl⟩⟩
  · exact (ps_set' c (i := 1) (pv_abs T.z_abs (pa_cons' (pv_ix c (pv_add c (PN.pv (pn_list c T.z_list (pa_cons' (pv_var 0) pa_nil'))) (PN.pv (pn_lst (pa_cons' pv_int pa_nil')))) pv_int) pa_nil')) (.inl rfl))
  · exact (pn_lst (pa_cons' (pv_ifExp (pb_cmp cm_ge (pv_var 1) (pv_pow pv_int pv_int)) (pv_div (pv_var 1) pv_int) pv_int) (pa_cons' (pv_add c (pv_mod (pv_intc T.z_int (pa_cons' (pv_add c (pv_mul c (pv_var 1) pv_int) pv_int) pa_nil')) pv_int) pv_int) pa_nil')))
  · exact newRet h
theorem dk__law_roll {F : Fx} {K : PySem.W.Frag} {mg : Str → Option Value} {P : Program} {w : World} {base : Heap} (T : Top F K mg base) : DOk F P w K mg base "_law_roll" 1 2 (SpC F 1 g__law_roll) := by
  obtain ⟨f, fd, Fu, gm⟩ := T.f__law_roll
  refine ⟨⟨f, fd, _, fn_cup T.hF (body := b__law_roll) Fu sc__law_roll rfl (by decide) (fun p cdv A outer s H E c => ?_) (fun cs ds _ => rfl), gm, Fu.kp, Fu.binds fun _ _ _ _ _ _ us hl => match us, hl with | [_, _], _ => rfl⟩⟩
  exact (pss_cons' (ps_if' (pb_cmp cm_gt (pv_ixV c 0 pv_int) pv_int) (pss_cons' (ps_set' c (i := 2) (pv_mod (pv_intc T.z_int (pa_cons' (pv_ixV c 0 pv_int) pa_nil')) (pv_var 1)) (.inr (by decide)))
    (pss_cons' (ps_setIx' (i := 0) (pv_div (pv_ixV c 0 pv_int) (pv_var 1)) pv_int)
    (pss_one' (ps_ret' (pv_var 2))))) pss_nil')
    (pss_cons' (ps_setIx' (i := 0) (pv_mod (pv_intc T.z_int (pa_cons' (pv_add c (pv_mul c (pv_ixV c 0 pv_int) pv_int) pv_int) pa_nil')) pv_int) pv_int)
    (pss_one' (ps_ret' (pv_mod (pv_intc T.z_int (pa_cons' (pv_div (pv_ixV c 0 pv_int) pv_int) pa_nil')) (pv_var 1))))))
theorem dk__law_sort {F : Fx} {K : PySem.W.Frag} {mg : Str → Option Value} {P : Program} {w : World} {base : Heap} (T : Top F K mg base) : DOk F P w K mg base "_law_sort" 1 1 (SpP F 1 g__law_sort) := by
  obtain ⟨f, fd, Fu, gm⟩ := T.f__law_sort
  refine ⟨⟨f, fd, _, fn_pure T.hF (body := b__law_sort) Fu sc__law_sort rfl (by decide) (fun cdv A outer s H E c => ?_) (fun ds _ => rfl), gm, Fu.kp, Fu.binds fun _ _ _ _ _ _ us hl => match us, hl with | [_], _ => rfl⟩⟩
  exact (pss_cons' (ps_if' (PBW.pb (pb_or (pb_cmp cm_isN (pv_var 0) pv_non) (pb_or1 (pb_val (pv_isi c (T := "bool") T.z_isinstance T.z_bool (by decide +kernel) (pv_var 0)))))) (pss_one' (ps_ret' (pv_ifExp (pb_cmp cm_isN (pv_var 0) pv_non) pv_int pv_int))) pss_nil')
    (pss_cons' (ps_if' (PBW.pb (pb_or (pb_val (pv_isi c (T := "int") T.z_isinstance T.z_int (by decide +kernel) (pv_var 0))) (pb_or1 (pb_val (pv_isi c (T := "str") T.z_isinstance T.z_str (by decide +kernel) (pv_var 0)))))) (pss_one' (ps_ret' (pv_ifExp (pb_val (pv_isi c (T := "int") T.z_isinstance T.z_int (by decide +kernel) (pv_var 0))) pv_int pv_int))) pss_nil')
    (pss_one' (ps_ret' (pv_ifExp (pb_val (pv_isi c (T := "tuple") T.z_isinstance T.z_tuple (by decide +kernel) (pv_var 0))) pv_int (pv_ifExp (pb_val (pv_isi c (T := "list") T.z_isinstance T.z_list (by decide +kernel) (pv_var 0))) pv_int pv_int))))))
theorem dk__law_like {F : Fx} {K : PySem.W.Frag} {mg : Str → Option Value} {P : Program} {w : World} {base : Heap} (T : Top F K mg base) (m : Nat) : DOk F P w K mg base "_law_like" (2 + m) 2 (SpP F 2 (g__law_like m)) := by
  obtain ⟨f, fd, Fu, gm⟩ := T.f__law_like
  have bd : Binds K fd ["one", "other"] [] := Fu.binds fun _ _ _ _ _ _ us hl => match us, hl with | [_, _], _ => rfl
  induction m with
  | zero => exact ⟨⟨f, fd, _, fn_none Fu sc__law_like rfl, gm, Fu.kp, bd⟩⟩
  | succ m ih =>
    refine ⟨⟨f, fd, _, fn_pure T.hF (body := b__law_like (g__law_like m)) Fu sc__law_like rfl (by decide) (fun cdv A outer s H E c => ?_) (fun ds _ => rfl), gm, Fu.kp, bd⟩⟩
    exact (pss_cons' (ps_set' c (i := 2) (pv_call c (dk__law_sort T) (Nat.le_add_right_of_le (by decide)) (pa_cons' (pv_var 1) pa_nil')) (.inl rfl))
    (pss_cons' (ps_if' (PBW.pb (pb_or (pb_cmp (cm_ne c) (pv_call c (dk__law_sort T) (Nat.le_add_right_of_le (by decide)) (pa_cons' (pv_var 0) pa_nil')) (pv_var 2)) (pb_or1 (pb_cmp (cm_eq c) (pv_var 2) pv_int)))) (pss_one' (ps_ret' pv_bl)) pss_nil')
    (pss_cons' (ps_if' (pb_cmp (cm_in c) (pv_var 2) (pv_tup (pa_cons' pv_int (pa_cons' pv_int pa_nil')))) (pss_one' (ps_ret' (pv_and (pv_cmp (cm_eq c) (pv_len c T.z_len (pa_cons' (pv_var 0) pa_nil')) (pv_len c T.z_len (pa_cons' (pv_var 1) pa_nil'))) (pv_one (pv_cmp (cm_eq c) (PN.pv (pn_lc (own := [("first", 3), ("second", 4)]) c (pit_zip c T.z_zip (pa_cons' (pv_var 0) (pa_cons' (pv_var 1) pa_nil'))) (by rfl) (fun _ _ _ _ _ c' => (ptg_tup c' (ptgs_cons (ptg_name (i := 3) c'.nd (.inl rfl)) (ptgs_cons (ptg_name (i := 4) c'.nd (.inl rfl)) ptgs_nil)))) (fun _ _ _ _ _ c' => (pts_one' (pb_not (pb_val (pv_call c' ih (Nat.le_refl _) (pa_cons' (pv_var 3) (pa_cons' (pv_var 4) pa_nil'))))))) (fun _ _ _ _ _ c' => pv_int) (.inl rfl) (by decide))) (PN.pv (pn_lst pa_nil'))))))) pss_nil')
    (pss_one' (ps_ret' (pv_cmp (cm_eq c) (pv_var 0) (pv_var 1)))))))
theorem dk__law_divisor {F : Fx} {K : PySem.W.Frag} {mg : Str → Option Value} {P : Program} {w : World} {base : Heap} (T : Top F K mg base) : DOk F P w K mg base "_law_divisor" 1 2 (SpP F 2 g__law_divisor) := by
  obtain ⟨f, fd, Fu, gm⟩ := T.f__law_divisor
  refine ⟨⟨f, fd, _, fn_pure T.hF (body := b__law_divisor) Fu sc__law_divisor rfl (by decide) (fun cdv A outer s H E c => ?_) (fun ds _ => rfl), gm, Fu.kp, Fu.binds fun _ _ _ _ _ _ us hl => match us, hl with | [_, _], _ => rfl⟩⟩
  exact (pss_cons' (ps_par2' c (i := 0) (j := 1) (psl_p (pv_abs T.z_abs (pa_cons' (pv_var 0) pa_nil'))) (psl_p (pv_abs T.z_abs (pa_cons' (pv_var 1) pa_nil'))) (.inl rfl) (.inl rfl) (by decide))
    (pss_cons' (ps_for' c (pit_range1 T.z_range (pa_cons' pv_int pa_nil')) (ptg_name (i := 2) c.nd (.inl rfl)) (pss_cons' (ps_if' (pb_cmp (cm_eq c) (pv_var 1) pv_int) (pss_one' (ps_ret' (pv_var 0))) pss_nil')
    (pss_one' (ps_par2' c (i := 0) (j := 1) (psl_p (pv_var 1)) (psl_p (pv_mod (pv_intc T.z_int (pa_cons' (pv_var 0) pa_nil')) (pv_var 1))) (.inl rfl) (.inl rfl) (by decide)))))
    (pss_one' (ps_ret' (pv_var 0)))))
theorem dk__law_plain {F : Fx} {K : PySem.W.Frag} {mg : Str → Option Value} {P : Program} {w : World} {base : Heap} (T : Top F K mg base) : DOk F P w K mg base "_law_plain" 2 2 (SpP F 2 g__law_plain) := by
  obtain ⟨f, fd, Fu, gm⟩ := T.f__law_plain
  refine ⟨⟨f, fd, _, fn_pure T.hF (body := b__law_plain) Fu sc__law_plain rfl (by decide) (fun cdv A outer s H E c => ?_) (fun ds _ => rfl), gm, Fu.kp, Fu.binds fun _ _ _ _ _ _ us hl => match us, hl with | [_, _], _ => rfl⟩⟩
  exact (pss_cons' (ps_set' c (i := 2) (pv_call c (dk__law_divisor T) (by decide) (pa_cons' (pv_var 0) (pa_cons' (pv_var 1) pa_nil'))) (.inl rfl))
    (pss_one' (ps_ret' (pv_tup (pa_cons' (pv_div (pv_var 0) (pv_var 2)) (pa_cons' (pv_div (pv_var 1) (pv_var 2)) pa_nil'))))))
theorem dk__law_plus {F : Fx} {K : PySem.W.Frag} {mg : Str → Option Value} {P : Program} {w : World} {base : Heap} (T : Top F K mg base) : DOk F P w K mg base "_law_plus" 3 2 (SpP F 2 g__law_plus) := by
  obtain ⟨f, fd, Fu, gm⟩ := T.f__law_plus
  refine ⟨⟨f, fd, _, fn_pure T.hF (body := b__law_plus) Fu sc__law_plus rfl (by decide) (fun cdv A outer s H E c => ?_) (fun ds _ => rfl), gm, Fu.kp, Fu.binds fun _ _ _ _ _ _ us hl => match us, hl with | [_, _], _ => rfl⟩⟩
  exact (pss_one' (ps_ret' (pv_call c (dk__law_plain T) (by decide) (pa_cons' (pv_add c (pv_mul c (pv_ix c (pv_var 0) pv_int) (pv_ix c (pv_var 1) pv_int)) (pv_mul c (pv_ix c (pv_var 1) pv_int) (pv_ix c (pv_var 0) pv_int))) (pa_cons' (pv_mul c (pv_ix c (pv_var 0) pv_int) (pv_ix c (pv_var 1) pv_int)) pa_nil')))))
theorem dk__law_total {F : Fx} {K : PySem.W.Frag} {mg : Str → Option Value} {P : Program} {w : World} {base : Heap} (T : Top F K mg base) : DOk F P w K mg base "_law_total" 4 1 (SpP F 1 g__law_total) := by
  obtain ⟨f, fd, Fu, gm⟩ := T.f__law_total
  refine ⟨⟨f, fd, _, fn_pure T.hF (body := b__law_total) Fu sc__law_total rfl (by decide) (fun cdv A outer s H E c => ?_) (fun ds _ => rfl), gm, Fu.kp, Fu.binds fun _ _ _ _ _ _ us hl => match us, hl with | [_], _ => rfl⟩⟩
  exact (pss_cons' (ps_set' c (i := 1) (pv_tup (pa_cons' pv_int (pa_cons' pv_int pa_nil'))) (.inl rfl))
    (pss_cons' (ps_for' c (pit_seq c (pv_var 0)) (ptg_name (i := 2) c.nd (.inl rfl)) (pss_one' (ps_set' c (i := 1) (pv_call c (dk__law_plus T) (by decide) (pa_cons' (pv_var 1) (pa_cons' (pv_var 2) pa_nil'))) (.inl rfl))))
    (pss_one' (ps_ret' (pv_var 1)))))
theorem dk__law_chance {F : Fx} {K : PySem.W.Frag} {mg : Str → Option Value} {P : Program} {w : World} {base : Heap} (T : Top F K mg base) : DOk F P w K mg base "_law_chance" 3 1 (SpC F 0 g__law_chance) := by
  obtain ⟨f, fd, Fu, gm⟩ := T.f__law_chance
  refine ⟨⟨f, fd, _, fn_cup T.hF (body := b__law_chance) Fu sc__law_chance rfl (by decide) (fun p cdv A outer s H E c => ?_) (fun cs ds _ => rfl), gm, Fu.kp, Fu.binds fun _ _ _ _ _ _ us hl => match us, hl with | [_], _ => rfl⟩⟩
  exact (pss_cons' (ps_set' c (i := 1) (pv_add c pv_int (pv_callC c 0 (dk__law_roll T) (by decide) (pa_cons' pv_int pa_nil'))) (.inr (by decide)))
    (pss_one' (ps_ret' (pv_call c (dk__law_plain T) (by decide) (pa_cons' (pv_callC c 0 (dk__law_roll T) (by decide) (pa_cons' (pv_add c (pv_var 1) pv_int) pa_nil')) (pa_cons' (pv_var 1) pa_nil'))))))
theorem dk__law_parts {F : Fx} {K : PySem.W.Frag} {mg : Str → Option Value} {P : Program} {w : World} {base : Heap} (T : Top F K mg base) : DOk F P w K mg base "_law_parts" 4 2 (SpC F 1 g__law_parts) := by
  obtain ⟨f, fd, Fu, gm⟩ := T.f__law_parts
  refine ⟨⟨f, fd, _, fn_cup T.hF (body := b__law_parts) Fu sc__law_parts rfl (by decide) (fun p cdv A outer s H E c => ?_) (fun cs ds _ => rfl), gm, Fu.kp, Fu.binds fun _ _ _ _ _ _ us hl => match us, hl with | [_, _], _ => rfl⟩⟩
  exact (pss_one' (ps_ret' (pv_tuple c T.z_tuple (pa_cons' (PN.pv (pn_lc (own := [("at", 2)]) c (pit_range1 T.z_range (pa_cons' (pv_var 1) pa_nil')) (by rfl) (fun _ _ _ _ _ c' => (ptg_name (i := 2) c'.nd (.inr (by decide)))) (fun _ _ _ _ _ c' => pts_nil') (fun _ _ _ _ _ c' => (pv_callC c' 0 (dk__law_chance T) (by decide) pa_nil')) (.inr (by decide)) (by decide))) pa_nil'))))
theorem dk__law_lots {F : Fx} {K : PySem.W.Frag} {mg : Str → Option Value} {P : Program} {w : World} {base : Heap} (T : Top F K mg base) : DOk F P w K mg base "_law_lots" 1 1 (SpP F 1 g__law_lots) := by
  obtain ⟨f, fd, Fu, gm⟩ := T.f__law_lots
  refine ⟨⟨f, fd, _, fn_pure T.hF (body := b__law_lots) Fu sc__law_lots rfl (by decide) (fun cdv A outer s H E c => ?_) (fun ds _ => rfl), gm, Fu.kp, Fu.binds fun _ _ _ _ _ _ us hl => match us, hl with | [_], _ => rfl⟩⟩
  exact (pss_cons' (ps_set' c (i := 1) (PN.pv (pn_lst (pa_cons' (pv_tup pa_nil') pa_nil'))) (.inl rfl))
    (pss_cons' (ps_for' c (pit_range1 T.z_range (pa_cons' (pv_var 0) pa_nil')) (ptg_name (i := 2) c.nd (.inl rfl)) (pss_one' (ps_set' c (i := 1) (pv_add c (pv_var 1) (PN.pv (pn_lc (own := [("lot", 3)]) c (pit_seq c (pv_var 1)) (by rfl) (fun _ _ _ _ _ c' => (ptg_name (i := 3) c'.nd (.inl rfl))) (fun _ _ _ _ _ c' => pts_nil') (fun _ _ _ _ _ c' => (pv_add c' (pv_var 3) (pv_tup (pa_cons' (pv_var 2) pa_nil')))) (.inl rfl) (by decide)))) (.inl rfl))))
    (pss_one' (ps_ret' (pv_var 1)))))
theorem dk__law_lot_chance {F : Fx} {K : PySem.W.Frag} {mg : Str → Option Value} {P : Program} {w : World} {base : Heap} (T : Top F K mg base) : DOk F P w K mg base "_law_lot_chance" 3 2 (SpP F 2 g__law_lot_chance) := by
  obtain ⟨f, fd, Fu, gm⟩ := T.f__law_lot_chance
  refine ⟨⟨f, fd, _, fn_pure T.hF (body := b__law_lot_chance) Fu sc__law_lot_chance rfl (by decide) (fun cdv A outer s H E c => ?_) (fun ds _ => rfl), gm, Fu.kp, Fu.binds fun _ _ _ _ _ _ us hl => match us, hl with | [_, _], _ => rfl⟩⟩
  exact (pss_cons' (ps_tg' (pv_tup (pa_cons' pv_int (pa_cons' pv_int pa_nil'))) (ptg_tup c (ptgs_cons (ptg_name (i := 2) c.nd (.inl rfl)) (ptgs_cons (ptg_name (i := 3) c.nd (.inl rfl)) ptgs_nil))))
    (pss_cons' (ps_for' c (pit_enum c T.z_enumerate (pa_cons' (pv_var 0) pa_nil')) (ptg_tup c (ptgs_cons (ptg_name (i := 4) c.nd (.inl rfl)) (ptgs_cons (ptg_tup c (ptgs_cons (ptg_name (i := 5) c.nd (.inl rfl)) (ptgs_cons (ptg_name (i := 6) c.nd (.inl rfl)) ptgs_nil))) ptgs_nil))) (pss_one' (ps_par2' c (i := 2) (j := 3) (psl_p (pv_mul c (pv_var 2) (pv_ifExp (pb_cmp (cm_in c) (pv_var 4) (pv_var 1)) (pv_var 5) (pv_sub (pv_var 6) (pv_var 5))))) (psl_p (pv_mul c (pv_var 3) (pv_var 6))) (.inl rfl) (.inl rfl) (by decide))))
    (pss_one' (ps_ret' (pv_call c (dk__law_plain T) (by decide) (pa_cons' (pv_var 2) (pa_cons' (pv_var 3) pa_nil')))))))
theorem dk__law_power {F : Fx} {K : PySem.W.Frag} {mg : Str → Option Value} {P : Program} {w : World} {base : Heap} (T : Top F K mg base) : DOk F P w K mg base "_law_power" 1 2 (SpP F 2 g__law_power) := by
  obtain ⟨f, fd, Fu, gm⟩ := T.f__law_power
  refine ⟨⟨f, fd, _, fn_pure T.hF (body := b__law_power) Fu sc__law_power rfl (by decide) (fun cdv A outer s H E c => ?_) (fun ds _ => rfl), gm, Fu.kp, Fu.binds fun _ _ _ _ _ _ us hl => match us, hl with | [_, _], _ => rfl⟩⟩
  exact (pss_cons' (ps_set' c (i := 2) pv_int (.inl rfl))
    (pss_cons' (ps_for' c (pit_range1 T.z_range (pa_cons' (pv_var 1) pa_nil')) (ptg_name (i := 3) c.nd (.inl rfl)) (pss_one' (ps_set' c (i := 2) (pv_mul c (pv_var 2) (pv_var 0)) (.inl rfl))))
    (pss_one' (ps_ret' (pv_var 2)))))
theorem dk__law_bad_parts {F : Fx} {K : PySem.W.Frag} {mg : Str → Option Value} {P : Program} {w : World} {base : Heap} (T : Top F K mg base) : DOk F P w K mg base "_law_bad_parts" 1 0 (SpP F 0 g__law_bad_parts) := by
  obtain ⟨f, fd, Fu, gm⟩ := T.f__law_bad_parts
  refine ⟨⟨f, fd, _, fn_pure T.hF (body := b__law_bad_parts) Fu sc__law_bad_parts rfl (by decide) (fun cdv A outer s H E c => ?_) (fun ds _ => rfl), gm, Fu.kp, Fu.binds fun _ _ _ _ _ _ us hl => match us, hl with | [], _ => rfl⟩⟩
  exact (pss_cons' (ps_set' c (i := 0) (pv_tup (pa_cons' pv_int (pa_cons' pv_int pa_nil'))) (.inl rfl))
    (pss_cons' (ps_set' c (i := 1) (PN.pv (pn_lst (pa_cons' pv_non (pa_cons' (PN.pv (pn_lst (pa_cons' (pv_var 0) pa_nil'))) (pa_cons' (pv_mul c (pv_tup (pa_cons' (pv_var 0) pa_nil')) pv_int) (pa_cons' (pv_tup (pa_cons' (pv_tup (pa_cons' pv_int (pa_cons' pv_int pa_nil'))) pa_nil')) (pa_cons' (pv_tup (pa_cons' (pv_tup (pa_cons' pv_int (pa_cons' pv_int pa_nil'))) pa_nil')) (pa_cons' (pv_tup (pa_cons' (pv_tup (pa_cons' (pv_neg pv_int) (pa_cons' pv_int pa_nil'))) pa_nil')) (pa_cons' (pv_tup (pa_cons' (pv_tup (pa_cons' pv_int (pa_cons' pv_int pa_nil'))) pa_nil')) (pa_cons' (pv_tup (pa_cons' pv_int pa_nil')) pa_nil')))))))))) (.inl rfl))
    (pss_one' (ps_ret' (pv_add c (pv_var 1) (PN.pv (pn_lst (pa_cons' (pv_tup (pa_cons' (pv_tup (pa_cons' pv_int (pa_cons' pv_bl pa_nil'))) pa_nil')) (pa_cons' (pv_tup (pa_cons' (pv_tup (pa_cons' pv_int (pa_cons' pv_int (pa_cons' pv_int pa_nil')))) pa_nil')) (pa_cons' (pv_var 0) (pa_cons' pv_str pa_nil')))))))))))
theorem wd__law_error : ∀ c, okE c = true → ∃ ε2, b__law_error c (startX 6 1) = .rt (.str (wdE c)) ε2 := by
  intro c h
  match c, h with
  | 0, _ => exact rt_some (by kernel_rfl)
  | 1, _ => exact rt_some (by kernel_rfl)
  | 2, _ => exact rt_some (by kernel_rfl)
  | 3, _ => exact rt_some (by kernel_rfl)
  | c + 4, h => first | (simp [okE, Nat.blt] at h; done) | (simp [okE, Nat.blt] at h; omega)
theorem ef__law_error {F : Fx} {K : PySem.W.Frag} {mg : Str → Option Value} {P : Program} {w : World} {base : Heap} (T : Top F K mg base) : EFn F P w K mg base "_law_error" "call" "none" okE wdE := by
  obtain ⟨f, fd, Fu, gm⟩ := T.f__law_error
  refine efn_of T.hF (i := 1) (CR := F.ca 4) Fu gm sc__law_error rfl rfl (Or.inl rfl) rfl rfl rfl T.root (by decide) T.ks (Fu.binds fun _ _ _ _ _ _ us hl => match us, hl with | [_], _ => rfl) (fun cdv A stack s H e oe pn cc hok hz hd ch => ?_)
  obtain ⟨ε2, he⟩ := wd__law_error cc hok
  exact ⟨b__law_error cc, ε2, (pss_cons' (psH_set ch (i := 2) (PN.pv (pn_lst (pa_cons' (pv_tup (pa_cons' pv_str (pa_cons' (pvH_isE (i := 1) (Dc := F.ca cc) (Cc := F.ca 1) rfl (T.xs cc hok) hz hd (T.kt cc 1 hok (by decide)) T.z_isinstance T.e_InvalidChances.gC) pa_nil'))) (pa_cons' (pv_tup (pa_cons' pv_str (pa_cons' (pvH_isE (i := 1) (Dc := F.ca cc) (Cc := F.ca 0) rfl (T.xs cc hok) hz hd (T.kt cc 0 hok (by decide)) T.z_isinstance T.e_InvalidNumber.gC) pa_nil'))) pa_nil')))) (.inl rfl))
    (pss_cons' (psH_setLc (i := 3) (own := [("word", 4), ("is_so", 5)]) ch (pitH_seq (pv_var 2)) (by rfl) (fun _ _ _ _ _ ch' => (ptgH_tup ch' (ptgs_cons (ptg_name (i := 4) ch'.nd (.inl rfl)) (ptgs_cons (ptg_name (i := 5) ch'.nd (.inl rfl)) ptgs_nil)))) (fun _ _ _ _ _ ch' => (pts_one' (pb_val (pv_var 5)))) (fun _ _ _ _ _ ch' => (pv_var 4)) (.inl rfl) (by decide) (.inl rfl))
    (pss_one' (ps_ret' (pv_join ch.hK pv_str (pv_var 3)))))), he⟩
theorem dk__law_has_run {F : Fx} {K : PySem.W.Frag} {mg : Str → Option Value} {P : Program} {w : World} {base : Heap} (T : Top F K mg base) : DOk F P w K mg base "_law_has_run" 1 4 (SpP F 4 g__law_has_run) := by
  obtain ⟨f, fd, Fu, gm⟩ := T.f__law_has_run
  refine ⟨⟨f, fd, _, fn_pure T.hF (body := b__law_has_run) Fu sc__law_has_run rfl (by decide) (fun cdv A outer s H E c => ?_) (fun ds _ => rfl), gm, Fu.kp, Fu.binds fun _ _ _ _ _ _ us hl => match us, hl with | [_, _, _, _], _ => rfl⟩⟩
  exact (pss_cons' (ps_if' (pb_cmp cm_gt (pv_var 2) (pv_var 1)) (pss_one' (ps_ret' pv_bl)) pss_nil')
    (pss_cons' (ps_for' c (pit_range1 T.z_range (pa_cons' (pv_ifExp (pb_val (pv_var 3)) (pv_var 1) (pv_add c (pv_sub (pv_var 1) (pv_var 2)) pv_int)) pa_nil')) (ptg_name (i := 4) c.nd (.inl rfl)) (pss_one' (ps_if' (pb_cmp (cm_eq c) (PN.pv (pn_lc (own := [("step", 5)]) c (pit_range1 T.z_range (pa_cons' (pv_var 2) pa_nil')) (by rfl) (fun _ _ _ _ _ c' => (ptg_name (i := 5) c'.nd (.inl rfl))) (fun _ _ _ _ _ c' => (pts_one' (pb_cmp (cm_in c') (pv_ifExp (pb_cmp cm_lt (pv_add c' (pv_var 4) (pv_var 5)) (pv_var 1)) (pv_add c' (pv_var 4) (pv_var 5)) (pv_sub (pv_add c' (pv_var 4) (pv_var 5)) (pv_var 1))) (pv_var 0)))) (fun _ _ _ _ _ c' => pv_int) (.inl rfl) (by decide))) (PN.pv (pn_lst pa_nil'))) (pss_one' (ps_ret' pv_bl)) pss_nil')))
    (pss_one' (ps_ret' pv_bl))))
theorem dk__law_right {F : Fx} {K : PySem.W.Frag} {mg : Str → Option Value} {P : Program} {w : World} {base : Heap} (T : Top F K mg base) : DOk F P w K mg base "_law_right" 15 2 (SpC F 1 g__law_right) := by
  obtain ⟨f, fd, Fu, gm⟩ := T.f__law_right
  refine ⟨⟨f, fd, _, fn_cup T.hF (body := b__law_right) Fu sc__law_right rfl (by decide) (fun p cdv A outer s H E c => ?_) (fun cs ds _ => rfl), gm, Fu.kp, Fu.binds fun _ _ _ _ _ _ us hl => match us, hl with | [_, _], _ => rfl⟩⟩
  exact (pss_cons' (ps_tg' (pv_tup (pa_cons' (pv_callC c 0 (dk__law_parts T) (by decide) (pa_cons' (pv_var 1) pa_nil')) (pa_cons' (pv_add c pv_int (pv_callC c 0 (dk__law_roll T) (by decide) (pa_cons' (pv_add c (pv_var 1) pv_int) pa_nil'))) pa_nil'))) (ptg_tup c (ptgs_cons (ptg_name (i := 2) c.nd (.inr (by decide))) (ptgs_cons (ptg_name (i := 3) c.nd (.inr (by decide))) ptgs_nil))))
    (pss_cons' (ps_setLc' (i := 4) (own := [("lot", 11)]) c (pit_seq c (pv_call c (dk__law_lots T) (by decide) (pa_cons' (pv_var 1) pa_nil'))) (by rfl) (fun _ _ _ _ _ c' => (ptg_name (i := 11) c'.nd (.inr (by decide)))) (fun _ _ _ _ _ c' => (pts_one' (pb_not (pb_val (pv_call c' (dk__law_has_run T) (by decide) (pa_cons' (pv_var 11) (pa_cons' (pv_var 1) (pa_cons' (pv_var 3) (pa_cons' pv_bl pa_nil'))))))))) (fun _ _ _ _ _ c' => (pv_var 11)) (.inr (by decide)) (by decide) (.inr (by decide)))
    (pss_cons' (ps_setLc' (i := 5) (own := [("lot", 11)]) c (pit_seq c (pv_call c (dk__law_lots T) (by decide) (pa_cons' (pv_var 1) pa_nil'))) (by rfl) (fun _ _ _ _ _ c' => (ptg_name (i := 11) c'.nd (.inr (by decide)))) (fun _ _ _ _ _ c' => (pts_one' (pb_not (pb_val (pv_call c' (dk__law_has_run T) (by decide) (pa_cons' (pv_var 11) (pa_cons' (pv_var 1) (pa_cons' (pv_var 3) (pa_cons' pv_bl pa_nil'))))))))) (fun _ _ _ _ _ c' => (pv_var 11)) (.inr (by decide)) (by decide) (.inr (by decide)))
    (pss_cons' (ps_setLc' (i := 6) (own := [("some", 12)]) c (pit_seq c (pv_tup (pa_cons' (pv_var 4) (pa_cons' (pv_var 5) pa_nil')))) (by rfl) (fun _ _ _ _ _ c' => (ptg_name (i := 12) c'.nd (.inr (by decide)))) (fun _ _ _ _ _ c' => pts_nil') (fun _ _ _ _ _ c' => (pv_call c' (dk__law_total T) (by decide) (pa_cons' (PN.pv (pn_lc (own := [("lot", 11)]) c' (pit_seq c' (pv_var 12)) (by rfl) (fun _ _ _ _ _ c'' => (ptg_name (i := 11) c''.nd (.inr (by decide)))) (fun _ _ _ _ _ c'' => pts_nil') (fun _ _ _ _ _ c'' => (pv_call c'' (dk__law_lot_chance T) (by decide) (pa_cons' (pv_var 2) (pa_cons' (pv_var 11) pa_nil')))) (.inr (by decide)) (by decide))) pa_nil'))) (.inr (by decide)) (by decide) (.inr (by decide)))
    (pss_cons' (ps_set' c (i := 7) (PN.pv (pn_lst (pa_cons' (pv_call c (dk_row_without T) (by decide) (pa_cons' (pv_var 2) (pa_cons' (pv_var 3) pa_nil'))) (pa_cons' (pv_call c (dk_ring_without T) (by decide) (pa_cons' (pv_var 2) (pa_cons' (pv_var 3) pa_nil'))) (pa_cons' (pv_call c (dk_count_rows T) (by decide) (pa_cons' (pv_var 1) (pa_cons' (pv_var 3) pa_nil'))) (pa_cons' (pv_call c (dk_count_rings T) (by decide) (pa_cons' (pv_var 1) (pa_cons' (pv_var 3) pa_nil'))) pa_nil')))))) (.inr (by decide)))
    (pss_cons' (ps_if' (pb_not (pb_val (pv_call c (dk__law_like T 12) (by decide) (pa_cons' (pv_var 7) (pa_cons' (pv_add c (pv_var 6) (PN.pv (pn_lst (pa_cons' (pv_len c T.z_len (pa_cons' (pv_var 4) pa_nil')) (pa_cons' (pv_len c T.z_len (pa_cons' (pv_var 5) pa_nil')) pa_nil'))))) pa_nil'))))) (pss_one' (ps_ret' pv_bl)) pss_nil')
    (pss_cons' (ps_set' c (i := 8) (pv_callC c 0 (dk__law_roll T) (by decide) (pa_cons' (pv_add c (pv_var 1) pv_int) pa_nil')) (.inr (by decide)))
    (pss_cons' (ps_set' c (i := 7) (PN.pv (pn_lst (pa_cons' (pv_call c (dk_row_without T) (by decide) (pa_cons' (pv_back c (pv_var 2) po_none' po_none') (pa_cons' (pv_var 3) pa_nil'))) (pa_cons' (pv_call c (dk_ring_without T) (by decide) (pa_cons' (pv_add c (pv_slice c (pv_var 2) (po_some' (pv_var 8)) po_none') (pv_slice c (pv_var 2) po_none' (po_some' (pv_var 8)))) (pa_cons' (pv_var 3) pa_nil'))) pa_nil')))) (.inr (by decide)))
    (pss_cons' (ps_if' (PBW.pb (pb_or (pb_not (pb_val (pv_call c (dk__law_like T 12) (by decide) (pa_cons' (pv_var 7) (pa_cons' (pv_var 6) pa_nil'))))) (pb_or1 (pb_cmp cm_gt (pv_mul c (pv_ix c (pv_ix c (pv_var 6) pv_int) pv_int) (pv_ix c (pv_ix c (pv_var 6) pv_int) pv_int)) (pv_mul c (pv_ix c (pv_ix c (pv_var 6) pv_int) pv_int) (pv_ix c (pv_ix c (pv_var 6) pv_int) pv_int)))))) (pss_one' (ps_ret' pv_bl)) pss_nil')
    (pss_cons' (ps_set' c (i := 9) (pv_callC c 0 (dk__law_chance T) (by decide) pa_nil') (.inr (by decide)))
    (pss_cons' (ps_set' c (i := 10) (pv_call c (dk__law_total T) (by decide) (pa_cons' (PN.pv (pn_lc (own := [("lot", 11)]) c (pit_seq c (pv_var 4)) (by rfl) (fun _ _ _ _ _ c' => (ptg_name (i := 11) c'.nd (.inr (by decide)))) (fun _ _ _ _ _ c' => pts_nil') (fun _ _ _ _ _ c' => (pv_call c' (dk__law_lot_chance T) (by decide) (pa_cons' (pv_mul c' (pv_tup (pa_cons' (pv_var 9) pa_nil')) (pv_var 1)) (pa_cons' (pv_var 11) pa_nil')))) (.inr (by decide)) (by decide))) pa_nil')) (.inr (by decide)))
    (pss_one' (ps_ret' (pv_call c (dk__law_like T 12) (by decide) (pa_cons' (pv_call c (dk_value_at T) (by decide) (pa_cons' (pv_call c (dk_run_polynomial T) (by decide) (pa_cons' (pv_var 1) (pa_cons' (pv_var 3) pa_nil'))) (pa_cons' (pv_var 9) pa_nil'))) (pa_cons' (pv_var 10) pa_nil'))))))))))))))))
theorem dk__law_great_right {F : Fx} {K : PySem.W.Frag} {mg : Str → Option Value} {P : Program} {w : World} {base : Heap} (T : Top F K mg base) : DOk F P w K mg base "_law_great_right" 15 1 (SpC F 0 g__law_great_right) := by
  obtain ⟨f, fd, Fu, gm⟩ := T.f__law_great_right
  refine ⟨⟨f, fd, _, fn_cup T.hF (body := b__law_great_right) Fu sc__law_great_right rfl (by decide) (fun p cdv A outer s H E c => ?_) (fun cs ds _ => rfl), gm, Fu.kp, Fu.binds fun _ _ _ _ _ _ us hl => match us, hl with | [_], _ => rfl⟩⟩
  exact (pss_cons' (ps_set' c (i := 1) (pv_add c pv_int (pv_callC c 0 (dk__law_roll T) (by decide) (pa_cons' pv_int pa_nil'))) (.inr (by decide)))
    (pss_cons' (ps_setLc' (i := 2) (own := [("n", 3)]) c (pit_range1 T.z_range (pa_cons' pv_int pa_nil')) (by rfl) (fun _ _ _ _ _ c' => (ptg_name (i := 3) c'.nd (.inr (by decide)))) (fun _ _ _ _ _ c' => pts_nil') (fun _ _ _ _ _ c' => (pv_call c' (dk_count_rows T) (by decide) (pa_cons' (pv_var 3) (pa_cons' (pv_var 1) pa_nil')))) (.inr (by decide)) (by decide) (.inr (by decide)))
    (pss_cons' (ps_for' c (pit_range1 T.z_range (pa_cons' pv_int pa_nil')) (ptg_name (i := 3) c.nd (.inr (by decide))) (pss_cons' (ps_set' c (i := 4) (pv_ifExp (pb_cmp cm_lt (pv_var 3) (pv_var 1)) (pv_call c (dk__law_power T) (by decide) (pa_cons' pv_int (pa_cons' (pv_var 3) pa_nil'))) (pv_sum c T.z_sum (pa_cons' (pv_slice c (pv_var 2) (po_some' (pv_sub (pv_var 3) (pv_var 1))) (po_some' (pv_var 3))) pa_nil'))) (.inr (by decide)))
    (pss_one' (ps_if' (pb_cmp (cm_ne c) (pv_ix c (pv_var 2) (pv_var 3)) (pv_var 4)) (pss_one' (ps_ret' pv_bl)) pss_nil'))))
    (pss_cons' (ps_setLc' (i := 5) (own := [("n", 3)]) c (pit_range2 T.z_range (pa_cons' pv_int (pa_cons' pv_int pa_nil'))) (by rfl) (fun _ _ _ _ _ c' => (ptg_name (i := 3) c'.nd (.inr (by decide)))) (fun _ _ _ _ _ c' => pts_nil') (fun _ _ _ _ _ c' => (pv_call c' (dk_count_rings T) (by decide) (pa_cons' (pv_var 3) (pa_cons' pv_int pa_nil')))) (.inr (by decide)) (by decide) (.inr (by decide)))
    (pss_cons' (ps_set' c (i := 6) (PN.pv (pn_lc (own := [("n", 3)]) c (pit_range1 T.z_range (pa_cons' pv_int pa_nil')) (by rfl) (fun _ _ _ _ _ c' => (ptg_name (i := 3) c'.nd (.inr (by decide)))) (fun _ _ _ _ _ c' => pts_nil') (fun _ _ _ _ _ c' => (pv_call c' (dk_count_rows T) (by decide) (pa_cons' (pv_var 3) (pa_cons' pv_int pa_nil')))) (.inr (by decide)) (by decide))) (.inr (by decide)))
    (pss_cons' (ps_if' (pb_cmp (cm_ne c) (pv_var 5) (PN.pv (pn_lc (own := [("n", 3)]) c (pit_range2 T.z_range (pa_cons' pv_int (pa_cons' pv_int pa_nil'))) (by rfl) (fun _ _ _ _ _ c' => (ptg_name (i := 3) c'.nd (.inr (by decide)))) (fun _ _ _ _ _ c' => pts_nil') (fun _ _ _ _ _ c' => (pv_sub (pv_ix c' (pv_var 6) (pv_var 3)) (pv_ifExp (pb_cmp cm_gt (pv_var 3) pv_int) (pv_ix c' (pv_var 6) (pv_sub (pv_var 3) pv_int)) pv_int))) (.inr (by decide)) (by decide)))) (pss_one' (ps_ret' pv_bl)) pss_nil')
    (pss_cons' (ps_set' c (i := 3) (pv_add c pv_int (pv_callC c 0 (dk__law_roll T) (by decide) (pa_cons' pv_int pa_nil'))) (.inr (by decide)))
    (pss_cons' (ps_set' c (i := 7) (PN.pv (pn_lst (pa_cons' (pv_call c (dk_count_rings T) (by decide) (pa_cons' (pv_var 3) (pa_cons' (pv_var 3) pa_nil'))) (pa_cons' (pv_call c (dk_count_rows T) (by decide) (pa_cons' (pv_var 3) (pa_cons' (pv_var 3) pa_nil'))) (pa_cons' (pv_call c (dk_count_rows T) (by decide) (pa_cons' (pv_var 3) (pa_cons' pv_int pa_nil'))) (pa_cons' (pv_call c (dk_count_rings T) (by decide) (pa_cons' (pv_var 3) (pa_cons' pv_int pa_nil'))) (pa_cons' (pv_call c (dk_run_polynomial T) (by decide) (pa_cons' (pv_var 3) (pa_cons' pv_int pa_nil'))) pa_nil'))))))) (.inr (by decide)))
    (pss_cons' (ps_set' c (i := 7) (pv_add c (pv_var 7) (PN.pv (pn_lst (pa_cons' (pv_cmp cm_gt (pv_len c T.z_len (pa_cons' (pv_call c (dk_run_polynomial T) (by decide) (pa_cons' pv_int (pa_cons' (pv_var 1) pa_nil'))) pa_nil')) pv_int) pa_nil')))) (.inr (by decide)))
    (pss_cons' (ps_set' c (i := 8) (pv_call c (dk__law_power T) (by decide) (pa_cons' pv_int (pa_cons' (pv_var 3) pa_nil'))) (.inr (by decide)))
    (pss_one' (ps_ret' (pv_call c (dk__law_like T 12) (by decide) (pa_cons' (pv_var 7) (pa_cons' (PN.pv (pn_lst (pa_cons' (pv_sub (pv_var 8) pv_int) (pa_cons' (pv_sub (pv_var 8) pv_int) (pa_cons' pv_int (pa_cons' pv_int (pa_cons' (pv_add c (pv_mul c (pv_tup (pa_cons' pv_int pa_nil')) (pv_var 3)) (pv_tup (pa_cons' pv_int pa_nil'))) (pa_cons' pv_bl pa_nil')))))))) pa_nil')))))))))))))))
theorem dvs2 {F : Fx} {K : PySem.W.Frag} {mg : Str → Option Value} {P : Program} {w : World} {base : Heap} (T : Top F K mg base) : DVs F P w K mg base 5 2 gs2 := by
  intro kf g h
  unfold gs2 at h
  split at h
  · cases h; exact dv_of (dk_row_without T) (by decide) T.v_row_without
  · cases h; exact dv_of (dk_ring_without T) (by decide) T.v_ring_without
  · cases h; exact dv_of (dk_count_rows T) (by decide) T.v_count_rows
  · cases h; exact dv_of (dk_count_rings T) (by decide) T.v_count_rings
  · cases h; exact dv_of (dk_run_polynomial T) (by decide) T.v_run_polynomial
  · cases h
theorem dk__law_errors_right {F : Fx} {K : PySem.W.Frag} {mg : Str → Option Value} {P : Program} {w : World} {base : Heap} (T : Top F K mg base) : DOk F P w K mg base "_law_errors_right" 8 0 (SpP F 0 g__law_errors_right) :=
  dok_pureT T.hF (body := b__law_errors_right) T.f__law_errors_right sc__law_errors_right rfl (by decide) (fun Fu => Fu.binds fun _ _ _ _ _ _ us hl => match us, hl with | [], _ => rfl) (fun f cdv A outer s H E c tb => (pss_cons' (ps_own' c (i := 0) (pn_lst pa_nil') (.inl rfl))
    (pss_cons' (ps_for' c (pit_seq c (pv_call0 c (dk__law_bad_parts T) (by decide))) (ptg_name (i := 1) c.nd (.inl rfl)) (pss_one' (ps_own' c (i := 0) (pn_add c (pv_frz 0 (.inl rfl)) (PN.pv (pn_lc (own := [("name", 4)]) c (pit_seq c (pv_tup (pa_cons' (pv_gl (glC_fn T.v_row_without)) (pa_cons' (pv_gl (glC_fn T.v_ring_without)) pa_nil')))) (by rfl) (fun _ _ _ _ _ c' => (ptg_name (i := 4) c'.nd (.inl rfl))) (fun _ _ _ _ _ c' => pts_nil') (fun _ _ _ _ _ c' => (pv_lawerrV c' 4 (ef__law_error T) (dvs2 T) (by decide) (TabC.blk tb _ _ _ _ _ _) (fun _ _ _ _ _ _ _ c'l => (pa_cons' (pv_var 1) (pa_cons' pv_non pa_nil'))))) (.inl rfl) (by decide)))) (.inl rfl))))
    (pss_cons' (ps_for' c (pit_seq c (pv_tup (pa_cons' pv_non (pa_cons' pv_int (pa_cons' pv_int (pa_cons' pv_bl (pa_cons' pv_str pa_nil'))))))) (ptg_name (i := 2) c.nd (.inl rfl)) (pss_cons' (ps_own' c (i := 0) (pn_add c (pv_frz 0 (.inl rfl)) (PN.pv (pn_lc (own := [("name", 4)]) c (pit_seq c (pv_tup (pa_cons' (pv_gl (glC_fn T.v_row_without)) (pa_cons' (pv_gl (glC_fn T.v_ring_without)) pa_nil')))) (by rfl) (fun _ _ _ _ _ c' => (ptg_name (i := 4) c'.nd (.inl rfl))) (fun _ _ _ _ _ c' => pts_nil') (fun _ _ _ _ _ c' => (pv_lawerrV c' 4 (ef__law_error T) (dvs2 T) (by decide) (TabC.blk tb _ _ _ _ _ _) (fun _ _ _ _ _ _ _ c'l => (pa_cons' (pv_tup (pa_cons' (pv_tup (pa_cons' pv_int (pa_cons' pv_int pa_nil'))) pa_nil')) (pa_cons' (pv_var 2) pa_nil'))))) (.inl rfl) (by decide)))) (.inl rfl))
    (pss_one' (ps_own' c (i := 0) (pn_add c (pv_frz 0 (.inl rfl)) (PN.pv (pn_lc (own := [("name", 4)]) c (pit_seq c (pv_tup (pa_cons' (pv_gl (glC_fn T.v_count_rows)) (pa_cons' (pv_gl (glC_fn T.v_count_rings)) (pa_cons' (pv_gl (glC_fn T.v_run_polynomial)) pa_nil'))))) (by rfl) (fun _ _ _ _ _ c' => (ptg_name (i := 4) c'.nd (.inl rfl))) (fun _ _ _ _ _ c' => pts_nil') (fun _ _ _ _ _ c' => (pv_lawerrV c' 4 (ef__law_error T) (dvs2 T) (by decide) (TabC.blk tb _ _ _ _ _ _) (fun _ _ _ _ _ _ _ c'l => (pa_cons' pv_int (pa_cons' (pv_var 2) pa_nil'))))) (.inl rfl) (by decide)))) (.inl rfl)))))
    (pss_cons' (ps_for' c (pit_seq c (pv_tup (pa_cons' pv_non (pa_cons' (pv_neg pv_int) (pa_cons' pv_int (pa_cons' pv_bl pa_nil')))))) (ptg_name (i := 3) c.nd (.inl rfl)) (pss_one' (ps_own' c (i := 0) (pn_add c (pv_frz 0 (.inl rfl)) (PN.pv (pn_lc (own := [("name", 4)]) c (pit_seq c (pv_tup (pa_cons' (pv_gl (glC_fn T.v_count_rows)) (pa_cons' (pv_gl (glC_fn T.v_count_rings)) (pa_cons' (pv_gl (glC_fn T.v_run_polynomial)) pa_nil'))))) (by rfl) (fun _ _ _ _ _ c' => (ptg_name (i := 4) c'.nd (.inl rfl))) (fun _ _ _ _ _ c' => pts_nil') (fun _ _ _ _ _ c' => (pv_lawerrV c' 4 (ef__law_error T) (dvs2 T) (by decide) (TabC.blk tb _ _ _ _ _ _) (fun _ _ _ _ _ _ _ c'l => (pa_cons' (pv_var 3) (pa_cons' pv_int pa_nil'))))) (.inl rfl) (by decide)))) (.inl rfl))))
    (pss_cons' (ps_append' (i := 0) (pv_lawerr c (ef__law_error T) (dk_run_polynomial T) (by decide) tb (fun _ _ _ _ _ _ _ cl => (pa_cons' pv_int (pa_cons' pv_int pa_nil')))))
    (pss_one' (ps_ret' (pv_cmp (cm_eq c) (pv_frz 0 (.inl rfl)) (pv_add c (pv_mul c (PN.pv (pn_lst (pa_cons' pv_str pa_nil'))) pv_int) (pv_mul c (PN.pv (pn_lst (pa_cons' pv_str pa_nil'))) pv_int))))))))))) (fun ds _ => rfl)
theorem ok_law {F : Fx} {K : PySem.W.Frag} {mg : Str → Option Value} {P : Program} {w : World} {base : Heap} (T : Top F K mg base) (hlaw : ∀ ns : List Int, ns.length ≤ 63 → g_law [.scr ns] = .ok (.bl true)) {f : Addr} {fd : FuncData} (Fu : Fun K "law" "law" s_law f fd) : FnOk P w K mg base (L2N.CX P w) 16 f fd ["script"] (spT K F.T) :=
  fn_lawT T.hF (body := b_law) Fu rfl sc_law rfl (by decide) (fun A outer s H E c => (pss_cons' (ps_own' c (i := 1) (pn_call c (dk__law_cup T) (by decide) (pa_cons' (pv_var 0) pa_nil')) (.inl rfl))
    (pss_cons' (ps_for' c (pit_range1 T.z_range (pa_cons' pv_int pa_nil')) (ptg_name (i := 2) c.nd (.inl rfl)) (pss_one' (ps_if' (pb_not (pb_val (pv_callC c 1 (dk__law_right T) (by decide) (pa_cons' (pv_callC c 1 (dk__law_roll T) (by decide) (pa_cons' pv_int pa_nil')) pa_nil')))) (pss_one' (ps_ret' pv_bl)) pss_nil')))
    (pss_cons' (ps_set' c (i := 3) (pv_tup (pa_cons' (pv_tup (pa_cons' pv_int (pa_cons' pv_int pa_nil'))) (pa_cons' (pv_tup (pa_cons' pv_int (pa_cons' pv_int pa_nil'))) (pa_cons' (pv_tup (pa_cons' pv_int (pa_cons' pv_int pa_nil'))) pa_nil')))) (.inl rfl))
    (pss_cons' (ps_set' c (i := 4) (PN.pv (pn_lst (pa_cons' (pv_call c (dk_row_without T) (by decide) (pa_cons' (pv_var 3) (pa_cons' pv_int pa_nil'))) (pa_cons' (pv_call c (dk_ring_without T) (by decide) (pa_cons' (pv_var 3) (pa_cons' pv_int pa_nil'))) (pa_cons' (pv_call c (dk_row_without T) (by decide) (pa_cons' (pv_var 3) (pa_cons' pv_int pa_nil'))) (pa_cons' (pv_call c (dk_ring_without T) (by decide) (pa_cons' (pv_var 3) (pa_cons' pv_int pa_nil'))) (pa_cons' (pv_call c (dk_row_without T) (by decide) (pa_cons' (pv_var 3) (pa_cons' pv_int pa_nil'))) pa_nil'))))))) (.inl rfl))
    (pss_cons' (ps_set' c (i := 4) (pv_add c (pv_var 4) (PN.pv (pn_lst (pa_cons' (pv_call c (dk_count_rows T) (by decide) (pa_cons' pv_int (pa_cons' pv_int pa_nil'))) (pa_cons' (pv_call c (dk_count_rings T) (by decide) (pa_cons' pv_int (pa_cons' pv_int pa_nil'))) pa_nil'))))) (.inl rfl))
    (pss_cons' (ps_set' c (i := 4) (pv_add c (pv_var 4) (PN.pv (pn_lst (pa_cons' (pv_call c (dk_run_polynomial T) (by decide) (pa_cons' pv_int (pa_cons' pv_int pa_nil'))) (pa_cons' (pv_call c (dk_count_rows T) (by decide) (pa_cons' pv_int (pa_cons' pv_int pa_nil'))) (pa_cons' (pv_call c (dk_count_rings T) (by decide) (pa_cons' pv_int (pa_cons' pv_int pa_nil'))) (pa_cons' (pv_call c (dk_run_polynomial T) (by decide) (pa_cons' pv_int (pa_cons' pv_int pa_nil'))) pa_nil'))))))) (.inl rfl))
    (pss_cons' (ps_set' c (i := 4) (pv_add c (pv_var 4) (PN.pv (pn_lst (pa_cons' (pv_call c (dk_row_without T) (by decide) (pa_cons' (pv_tup (pa_cons' (pv_tup (pa_cons' pv_int (pa_cons' pv_int pa_nil'))) (pa_cons' (pv_tup (pa_cons' pv_int (pa_cons' pv_int pa_nil'))) (pa_cons' (pv_tup (pa_cons' pv_int (pa_cons' pv_int pa_nil'))) pa_nil')))) (pa_cons' pv_int pa_nil'))) pa_nil')))) (.inl rfl))
    (pss_cons' (ps_set' c (i := 4) (pv_add c (pv_var 4) (PN.pv (pn_lst (pa_cons' (pv_call c (dk_ring_without T) (by decide) (pa_cons' (pv_tup (pa_cons' (pv_tup (pa_cons' pv_int (pa_cons' pv_int pa_nil'))) (pa_cons' (pv_tup (pa_cons' pv_int (pa_cons' pv_int pa_nil'))) (pa_cons' (pv_tup (pa_cons' pv_int (pa_cons' pv_int pa_nil'))) (pa_cons' (pv_tup (pa_cons' pv_int (pa_cons' pv_int pa_nil'))) pa_nil'))))) (pa_cons' pv_int pa_nil'))) pa_nil')))) (.inl rfl))
    (pss_cons' (ps_set' c (i := 4) (pv_add c (pv_var 4) (PN.pv (pn_lst (pa_cons' (pv_call c (dk_row_without T) (by decide) (pa_cons' (pv_tup (pa_cons' (pv_tup (pa_cons' pv_int (pa_cons' pv_int pa_nil'))) (pa_cons' (pv_tup (pa_cons' pv_int (pa_cons' pv_int pa_nil'))) (pa_cons' (pv_tup (pa_cons' pv_int (pa_cons' pv_int pa_nil'))) pa_nil')))) (pa_cons' pv_int pa_nil'))) (pa_cons' (pv_call c (dk_row_without T) (by decide) (pa_cons' (pv_tup (pa_cons' (pv_tup (pa_cons' pv_int (pa_cons' pv_int pa_nil'))) (pa_cons' (pv_tup (pa_cons' pv_int (pa_cons' pv_int pa_nil'))) (pa_cons' (pv_tup (pa_cons' pv_int (pa_cons' pv_int pa_nil'))) pa_nil')))) (pa_cons' pv_int pa_nil'))) pa_nil'))))) (.inl rfl))
    (pss_cons' (ps_set' c (i := 4) (pv_add c (pv_var 4) (PN.pv (pn_lst (pa_cons' (pv_call c (dk_row_without T) (by decide) (pa_cons' (pv_tup pa_nil') (pa_cons' pv_int pa_nil'))) (pa_cons' (pv_call c (dk_ring_without T) (by decide) (pa_cons' (pv_tup pa_nil') (pa_cons' pv_int pa_nil'))) pa_nil'))))) (.inl rfl))
    (pss_cons' (ps_set' c (i := 4) (pv_add c (pv_var 4) (PN.pv (pn_lst (pa_cons' (pv_call c (dk_ring_without T) (by decide) (pa_cons' (pv_tup (pa_cons' (pv_tup (pa_cons' pv_int (pa_cons' pv_int pa_nil'))) pa_nil')) (pa_cons' pv_int pa_nil'))) (pa_cons' (pv_call c (dk_ring_without T) (by decide) (pa_cons' (pv_tup (pa_cons' (pv_tup (pa_cons' pv_int (pa_cons' pv_int pa_nil'))) pa_nil')) (pa_cons' pv_int pa_nil'))) (pa_cons' (pv_call c (dk_run_polynomial T) (by decide) (pa_cons' pv_int (pa_cons' pv_int pa_nil'))) (pa_cons' (pv_call c (dk_count_rings T) (by decide) (pa_cons' pv_int (pa_cons' pv_int pa_nil'))) pa_nil'))))))) (.inl rfl))
    (pss_cons' (ps_set' c (i := 4) (pv_add c (pv_var 4) (PN.pv (pn_lst (pa_cons' (pv_call c (dk_count_rings T) (by decide) (pa_cons' pv_int (pa_cons' pv_int pa_nil'))) pa_nil')))) (.inl rfl))
    (pss_cons' (ps_set' c (i := 5) (PN.pv (pn_lst (pa_cons' (pv_tup (pa_cons' pv_int (pa_cons' pv_int pa_nil'))) (pa_cons' (pv_tup (pa_cons' pv_int (pa_cons' pv_int pa_nil'))) (pa_cons' (pv_tup (pa_cons' pv_int (pa_cons' pv_int pa_nil'))) (pa_cons' (pv_tup (pa_cons' pv_int (pa_cons' pv_int pa_nil'))) (pa_cons' (pv_tup (pa_cons' pv_int (pa_cons' pv_int pa_nil'))) (pa_cons' pv_int (pa_cons' pv_int (pa_cons' (pv_tup (pa_cons' pv_int (pa_cons' pv_int (pa_cons' pv_int (pa_cons' (pv_neg pv_int) pa_nil'))))) (pa_cons' pv_int (pa_cons' pv_int (pa_cons' (pv_tup (pa_cons' pv_int (pa_cons' pv_int (pa_cons' pv_int pa_nil')))) (pa_cons' (pv_tup (pa_cons' pv_int (pa_cons' pv_int pa_nil'))) (pa_cons' (pv_tup (pa_cons' pv_int (pa_cons' pv_int pa_nil'))) pa_nil'))))))))))))))) (.inl rfl))
    (pss_cons' (ps_set' c (i := 5) (pv_add c (pv_var 5) (PN.pv (pn_lst (pa_cons' (pv_tup (pa_cons' pv_int (pa_cons' pv_int pa_nil'))) (pa_cons' (pv_tup (pa_cons' pv_int (pa_cons' pv_int pa_nil'))) (pa_cons' (pv_tup (pa_cons' pv_int (pa_cons' pv_int pa_nil'))) (pa_cons' (pv_tup (pa_cons' pv_int (pa_cons' pv_int pa_nil'))) (pa_cons' (pv_tup (pa_cons' pv_int (pa_cons' pv_int pa_nil'))) (pa_cons' (pv_tup (pa_cons' pv_int (pa_cons' pv_int pa_nil'))) (pa_cons' (pv_tup (pa_cons' pv_int pa_nil')) (pa_cons' pv_int (pa_cons' pv_int pa_nil')))))))))))) (.inl rfl))
    (pss_one' (ps_ret' (pv_and (pv_call c (dk__law_like T 12) (by decide) (pa_cons' (pv_var 4) (pa_cons' (pv_var 5) pa_nil'))) (pv_and (pv_callC c 1 (dk__law_great_right T) (by decide) pa_nil') (pv_one (pv_call0 c (dk__law_errors_right T) (by decide)))))))))))))))))))))) hlaw
theorem tab_uq {ps : List (Addr × Str)} {p r : Addr × Str} (nd : (ps.map (·.1)).Nodup) (hp : p ∈ ps) (e : p.1 = r.1) (hr : r ∈ ps) : p.2 = r.2 := by
  induction ps with
  | nil => cases hp
  | cons x xs ih =>
    rw [List.map_cons, List.nodup_cons] at nd
    rcases List.mem_cons.mp hp with rfl | h1
    · rcases List.mem_cons.mp hr with rfl | h2
      · rfl
      · exact absurd (List.mem_map.mpr ⟨r, h2, e.symm⟩) nd.1
    · rcases List.mem_cons.mp hr with rfl | h2
      · exact absurd (List.mem_map.mpr ⟨p, h1, e⟩) nd.1
      · exact ih nd.2 h1 h2
theorem all_mk (hlaw : ∀ ns : List Int, ns.length ≤ 63 → g_law [.scr ns] = .ok (.bl true)) {w : World} {K : PySem.W.Frag} {h : Heap} {mg : Str → Option Value} {fa : Addr} (X : K.In h) (G : h.Ns mainGlobals mg) (hfa : mg "law" = some (.ref fa))
    {u0 : Addr} {od0 an0 : Option Addr} {sl0 : Array (Option Value)} {oc0 kV0 dc0 pm0 ct0 : Value} {cd0 : Value} (a0 : PySem.W.nsIn K mainGlobals "is_whole" = some (some (.ref u0))) (l0 : K.lookup u0 = some ⟨oc0, od0, .func (PySem.W.fnOf "is_whole" "is_whole" (defArgs s_is_whole) (defBody s_is_whole) (defScope s_is_whole) .none kV0 dc0 pm0 an0 cd0 ct0), sl0⟩) (c0 : PySem.W.codeIn K cd0 "is_whole" = true) (k0 : PySem.W.keepIn K (.ref u0) = true)
    {u1 : Addr} {od1 an1 : Option Addr} {sl1 : Array (Option Value)} {oc1 kV1 dc1 pm1 ct1 : Value} {cd1 : Value} (a1 : PySem.W.nsIn K mainGlobals "need_whole" = some (some (.ref u1))) (l1 : K.lookup u1 = some ⟨oc1, od1, .func (PySem.W.fnOf "need_whole" "need_whole" (defArgs s_need_whole) (defBody s_need_whole) (defScope s_need_whole) .none kV1 dc1 pm1 an1 cd1 ct1), sl1⟩) (c1 : PySem.W.codeIn K cd1 "need_whole" = true) (k1 : PySem.W.keepIn K (.ref u1) = true)
    {u2 : Addr} {od2 an2 : Option Addr} {sl2 : Array (Option Value)} {oc2 kV2 dc2 pm2 ct2 : Value} {cd2 : Value} (a2 : PySem.W.nsIn K mainGlobals "is_tuple_of" = some (some (.ref u2))) (l2 : K.lookup u2 = some ⟨oc2, od2, .func (PySem.W.fnOf "is_tuple_of" "is_tuple_of" (defArgs s_is_tuple_of) (defBody s_is_tuple_of) (defScope s_is_tuple_of) .none kV2 dc2 pm2 an2 cd2 ct2), sl2⟩) (c2 : PySem.W.codeIn K cd2 "is_tuple_of" = true) (k2 : PySem.W.keepIn K (.ref u2) = true)
    {u3 : Addr} {od3 an3 : Option Addr} {sl3 : Array (Option Value)} {oc3 kV3 dc3 pm3 ct3 : Value} {cd3 : Value} (a3 : PySem.W.nsIn K mainGlobals "is_portion" = some (some (.ref u3))) (l3 : K.lookup u3 = some ⟨oc3, od3, .func (PySem.W.fnOf "is_portion" "is_portion" (defArgs s_is_portion) (defBody s_is_portion) (defScope s_is_portion) .none kV3 dc3 pm3 an3 cd3 ct3), sl3⟩) (c3 : PySem.W.codeIn K cd3 "is_portion" = true) (k3 : PySem.W.keepIn K (.ref u3) = true)
    {u4 : Addr} {od4 an4 : Option Addr} {sl4 : Array (Option Value)} {oc4 kV4 dc4 pm4 ct4 : Value} {cd4 : Value} (a4 : PySem.W.nsIn K mainGlobals "lowest" = some (some (.ref u4))) (l4 : K.lookup u4 = some ⟨oc4, od4, .func (PySem.W.fnOf "lowest" "lowest" (defArgs s_lowest) (defBody s_lowest) (defScope s_lowest) .none kV4 dc4 pm4 an4 cd4 ct4), sl4⟩) (c4 : PySem.W.codeIn K cd4 "lowest" = true) (k4 : PySem.W.keepIn K (.ref u4) = true)
    {u5 : Addr} {od5 an5 : Option Addr} {sl5 : Array (Option Value)} {oc5 kV5 dc5 pm5 ct5 : Value} {cd5 : Value} (a5 : PySem.W.nsIn K mainGlobals "plus" = some (some (.ref u5))) (l5 : K.lookup u5 = some ⟨oc5, od5, .func (PySem.W.fnOf "plus" "plus" (defArgs s_plus) (defBody s_plus) (defScope s_plus) .none kV5 dc5 pm5 an5 cd5 ct5), sl5⟩) (c5 : PySem.W.codeIn K cd5 "plus" = true) (k5 : PySem.W.keepIn K (.ref u5) = true)
    {u6 : Addr} {od6 an6 : Option Addr} {sl6 : Array (Option Value)} {oc6 kV6 dc6 pm6 ct6 : Value} {cd6 : Value} (a6 : PySem.W.nsIn K mainGlobals "times" = some (some (.ref u6))) (l6 : K.lookup u6 = some ⟨oc6, od6, .func (PySem.W.fnOf "times" "times" (defArgs s_times) (defBody s_times) (defScope s_times) .none kV6 dc6 pm6 an6 cd6 ct6), sl6⟩) (c6 : PySem.W.codeIn K cd6 "times" = true) (k6 : PySem.W.keepIn K (.ref u6) = true)
    {u7 : Addr} {od7 an7 : Option Addr} {sl7 : Array (Option Value)} {oc7 kV7 dc7 pm7 ct7 : Value} {cd7 : Value} (a7 : PySem.W.nsIn K mainGlobals "is_chance" = some (some (.ref u7))) (l7 : K.lookup u7 = some ⟨oc7, od7, .func (PySem.W.fnOf "is_chance" "is_chance" (defArgs s_is_chance) (defBody s_is_chance) (defScope s_is_chance) .none kV7 dc7 pm7 an7 cd7 ct7), sl7⟩) (c7 : PySem.W.codeIn K cd7 "is_chance" = true) (k7 : PySem.W.keepIn K (.ref u7) = true)
    {u8 : Addr} {od8 an8 : Option Addr} {sl8 : Array (Option Value)} {oc8 kV8 dc8 pm8 ct8 : Value} {cd8 : Value} (a8 : PySem.W.nsIn K mainGlobals "need_parts" = some (some (.ref u8))) (l8 : K.lookup u8 = some ⟨oc8, od8, .func (PySem.W.fnOf "need_parts" "need_parts" (defArgs s_need_parts) (defBody s_need_parts) (defScope s_need_parts) .none kV8 dc8 pm8 an8 cd8 ct8), sl8⟩) (c8 : PySem.W.codeIn K cd8 "need_parts" = true) (k8 : PySem.W.keepIn K (.ref u8) = true)
    {u9 : Addr} {od9 an9 : Option Addr} {sl9 : Array (Option Value)} {oc9 kV9 dc9 pm9 ct9 : Value} {cd9 : Value} (a9 : PySem.W.nsIn K mainGlobals "rest_of" = some (some (.ref u9))) (l9 : K.lookup u9 = some ⟨oc9, od9, .func (PySem.W.fnOf "rest_of" "rest_of" (defArgs s_rest_of) (defBody s_rest_of) (defScope s_rest_of) .none kV9 dc9 pm9 an9 cd9 ct9), sl9⟩) (c9 : PySem.W.codeIn K cd9 "rest_of" = true) (k9 : PySem.W.keepIn K (.ref u9) = true)
    {u10 : Addr} {od10 an10 : Option Addr} {sl10 : Array (Option Value)} {oc10 kV10 dc10 pm10 ct10 : Value} {cd10 : Value} (a10 : PySem.W.nsIn K mainGlobals "is_polynomial" = some (some (.ref u10))) (l10 : K.lookup u10 = some ⟨oc10, od10, .func (PySem.W.fnOf "is_polynomial" "is_polynomial" (defArgs s_is_polynomial) (defBody s_is_polynomial) (defScope s_is_polynomial) .none kV10 dc10 pm10 an10 cd10 ct10), sl10⟩) (c10 : PySem.W.codeIn K cd10 "is_polynomial" = true) (k10 : PySem.W.keepIn K (.ref u10) = true)
    {u11 : Addr} {od11 an11 : Option Addr} {sl11 : Array (Option Value)} {oc11 kV11 dc11 pm11 ct11 : Value} {cd11 : Value} (a11 : PySem.W.nsIn K mainGlobals "need_polynomial" = some (some (.ref u11))) (l11 : K.lookup u11 = some ⟨oc11, od11, .func (PySem.W.fnOf "need_polynomial" "need_polynomial" (defArgs s_need_polynomial) (defBody s_need_polynomial) (defScope s_need_polynomial) .none kV11 dc11 pm11 an11 cd11 ct11), sl11⟩) (c11 : PySem.W.codeIn K cd11 "need_polynomial" = true) (k11 : PySem.W.keepIn K (.ref u11) = true)
    {u12 : Addr} {od12 an12 : Option Addr} {sl12 : Array (Option Value)} {oc12 kV12 dc12 pm12 ct12 : Value} {cd12 : Value} (a12 : PySem.W.nsIn K mainGlobals "cut" = some (some (.ref u12))) (l12 : K.lookup u12 = some ⟨oc12, od12, .func (PySem.W.fnOf "cut" "cut" (defArgs s_cut) (defBody s_cut) (defScope s_cut) .none kV12 dc12 pm12 an12 cd12 ct12), sl12⟩) (c12 : PySem.W.codeIn K cd12 "cut" = true) (k12 : PySem.W.keepIn K (.ref u12) = true)
    {u13 : Addr} {od13 an13 : Option Addr} {sl13 : Array (Option Value)} {oc13 kV13 dc13 pm13 ct13 : Value} {cd13 : Value} (a13 : PySem.W.nsIn K mainGlobals "add" = some (some (.ref u13))) (l13 : K.lookup u13 = some ⟨oc13, od13, .func (PySem.W.fnOf "add" "add" (defArgs s_add) (defBody s_add) (defScope s_add) .none kV13 dc13 pm13 an13 cd13 ct13), sl13⟩) (c13 : PySem.W.codeIn K cd13 "add" = true) (k13 : PySem.W.keepIn K (.ref u13) = true)
    {u14 : Addr} {od14 an14 : Option Addr} {sl14 : Array (Option Value)} {oc14 kV14 dc14 pm14 ct14 : Value} {cd14 : Value} (a14 : PySem.W.nsIn K mainGlobals "multiply" = some (some (.ref u14))) (l14 : K.lookup u14 = some ⟨oc14, od14, .func (PySem.W.fnOf "multiply" "multiply" (defArgs s_multiply) (defBody s_multiply) (defScope s_multiply) .none kV14 dc14 pm14 an14 cd14 ct14), sl14⟩) (c14 : PySem.W.codeIn K cd14 "multiply" = true) (k14 : PySem.W.keepIn K (.ref u14) = true)
    {u15 : Addr} {od15 an15 : Option Addr} {sl15 : Array (Option Value)} {oc15 kV15 dc15 pm15 ct15 : Value} {cd15 : Value} (a15 : PySem.W.nsIn K mainGlobals "value_at" = some (some (.ref u15))) (l15 : K.lookup u15 = some ⟨oc15, od15, .func (PySem.W.fnOf "value_at" "value_at" (defArgs s_value_at) (defBody s_value_at) (defScope s_value_at) .none kV15 dc15 pm15 an15 cd15 ct15), sl15⟩) (c15 : PySem.W.codeIn K cd15 "value_at" = true) (k15 : PySem.W.keepIn K (.ref u15) = true)
    {u16 : Addr} {od16 an16 : Option Addr} {sl16 : Array (Option Value)} {oc16 kV16 dc16 pm16 ct16 : Value} {cd16 : Value} (a16 : PySem.W.nsIn K mainGlobals "steps_in" = some (some (.ref u16))) (l16 : K.lookup u16 = some ⟨oc16, od16, .func (PySem.W.fnOf "steps_in" "steps_in" (defArgs s_steps_in) (defBody s_steps_in) (defScope s_steps_in) .none kV16 dc16 pm16 an16 cd16 ct16), sl16⟩) (c16 : PySem.W.codeIn K cd16 "steps_in" = true) (k16 : PySem.W.keepIn K (.ref u16) = true)
    {u17 : Addr} {od17 an17 : Option Addr} {sl17 : Array (Option Value)} {oc17 kV17 dc17 pm17 ct17 : Value} {cd17 : Value} (a17 : PySem.W.nsIn K mainGlobals "sum_of" = some (some (.ref u17))) (l17 : K.lookup u17 = some ⟨oc17, od17, .func (PySem.W.fnOf "sum_of" "sum_of" (defArgs s_sum_of) (defBody s_sum_of) (defScope s_sum_of) .none kV17 dc17 pm17 an17 cd17 ct17), sl17⟩) (c17 : PySem.W.codeIn K cd17 "sum_of" = true) (k17 : PySem.W.keepIn K (.ref u17) = true)
    {u18 : Addr} {od18 an18 : Option Addr} {sl18 : Array (Option Value)} {oc18 kV18 dc18 pm18 ct18 : Value} {cd18 : Value} (a18 : PySem.W.nsIn K mainGlobals "row_in" = some (some (.ref u18))) (l18 : K.lookup u18 = some ⟨oc18, od18, .func (PySem.W.fnOf "row_in" "row_in" (defArgs s_row_in) (defBody s_row_in) (defScope s_row_in) .none kV18 dc18 pm18 an18 cd18 ct18), sl18⟩) (c18 : PySem.W.codeIn K cd18 "row_in" = true) (k18 : PySem.W.keepIn K (.ref u18) = true)
    {u19 : Addr} {od19 an19 : Option Addr} {sl19 : Array (Option Value)} {oc19 kV19 dc19 pm19 ct19 : Value} {cd19 : Value} (a19 : PySem.W.nsIn K mainGlobals "ring_in" = some (some (.ref u19))) (l19 : K.lookup u19 = some ⟨oc19, od19, .func (PySem.W.fnOf "ring_in" "ring_in" (defArgs s_ring_in) (defBody s_ring_in) (defScope s_ring_in) .none kV19 dc19 pm19 an19 cd19 ct19), sl19⟩) (c19 : PySem.W.codeIn K cd19 "ring_in" = true) (k19 : PySem.W.keepIn K (.ref u19) = true)
    {u20 : Addr} {od20 an20 : Option Addr} {sl20 : Array (Option Value)} {oc20 kV20 dc20 pm20 ct20 : Value} {cd20 : Value} (a20 : PySem.W.nsIn K mainGlobals "rows_in" = some (some (.ref u20))) (l20 : K.lookup u20 = some ⟨oc20, od20, .func (PySem.W.fnOf "rows_in" "rows_in" (defArgs s_rows_in) (defBody s_rows_in) (defScope s_rows_in) .none kV20 dc20 pm20 an20 cd20 ct20), sl20⟩) (c20 : PySem.W.codeIn K cd20 "rows_in" = true) (k20 : PySem.W.keepIn K (.ref u20) = true)
    {u21 : Addr} {od21 an21 : Option Addr} {sl21 : Array (Option Value)} {oc21 kV21 dc21 pm21 ct21 : Value} {cd21 : Value} (a21 : PySem.W.nsIn K mainGlobals "rings_in" = some (some (.ref u21))) (l21 : K.lookup u21 = some ⟨oc21, od21, .func (PySem.W.fnOf "rings_in" "rings_in" (defArgs s_rings_in) (defBody s_rings_in) (defScope s_rings_in) .none kV21 dc21 pm21 an21 cd21 ct21), sl21⟩) (c21 : PySem.W.codeIn K cd21 "rings_in" = true) (k21 : PySem.W.keepIn K (.ref u21) = true)
    {u22 : Addr} {od22 an22 : Option Addr} {sl22 : Array (Option Value)} {oc22 kV22 dc22 pm22 ct22 : Value} {cd22 : Value} (a22 : PySem.W.nsIn K mainGlobals "need_run" = some (some (.ref u22))) (l22 : K.lookup u22 = some ⟨oc22, od22, .func (PySem.W.fnOf "need_run" "need_run" (defArgs s_need_run) (defBody s_need_run) (defScope s_need_run) .none kV22 dc22 pm22 an22 cd22 ct22), sl22⟩) (c22 : PySem.W.codeIn K cd22 "need_run" = true) (k22 : PySem.W.keepIn K (.ref u22) = true)
    {u23 : Addr} {od23 an23 : Option Addr} {sl23 : Array (Option Value)} {oc23 kV23 dc23 pm23 ct23 : Value} {cd23 : Value} (a23 : PySem.W.nsIn K mainGlobals "row_without" = some (some (.ref u23))) (l23 : K.lookup u23 = some ⟨oc23, od23, .func (PySem.W.fnOf "row_without" "row_without" (defArgs s_row_without) (defBody s_row_without) (defScope s_row_without) .none kV23 dc23 pm23 an23 cd23 ct23), sl23⟩) (c23 : PySem.W.codeIn K cd23 "row_without" = true) (k23 : PySem.W.keepIn K (.ref u23) = true)
    {u24 : Addr} {od24 an24 : Option Addr} {sl24 : Array (Option Value)} {oc24 kV24 dc24 pm24 ct24 : Value} {cd24 : Value} (a24 : PySem.W.nsIn K mainGlobals "ring_without" = some (some (.ref u24))) (l24 : K.lookup u24 = some ⟨oc24, od24, .func (PySem.W.fnOf "ring_without" "ring_without" (defArgs s_ring_without) (defBody s_ring_without) (defScope s_ring_without) .none kV24 dc24 pm24 an24 cd24 ct24), sl24⟩) (c24 : PySem.W.codeIn K cd24 "ring_without" = true) (k24 : PySem.W.keepIn K (.ref u24) = true)
    {u25 : Addr} {od25 an25 : Option Addr} {sl25 : Array (Option Value)} {oc25 kV25 dc25 pm25 ct25 : Value} {cd25 : Value} (a25 : PySem.W.nsIn K mainGlobals "count_rows" = some (some (.ref u25))) (l25 : K.lookup u25 = some ⟨oc25, od25, .func (PySem.W.fnOf "count_rows" "count_rows" (defArgs s_count_rows) (defBody s_count_rows) (defScope s_count_rows) .none kV25 dc25 pm25 an25 cd25 ct25), sl25⟩) (c25 : PySem.W.codeIn K cd25 "count_rows" = true) (k25 : PySem.W.keepIn K (.ref u25) = true)
    {u26 : Addr} {od26 an26 : Option Addr} {sl26 : Array (Option Value)} {oc26 kV26 dc26 pm26 ct26 : Value} {cd26 : Value} (a26 : PySem.W.nsIn K mainGlobals "count_rings" = some (some (.ref u26))) (l26 : K.lookup u26 = some ⟨oc26, od26, .func (PySem.W.fnOf "count_rings" "count_rings" (defArgs s_count_rings) (defBody s_count_rings) (defScope s_count_rings) .none kV26 dc26 pm26 an26 cd26 ct26), sl26⟩) (c26 : PySem.W.codeIn K cd26 "count_rings" = true) (k26 : PySem.W.keepIn K (.ref u26) = true)
    {u27 : Addr} {od27 an27 : Option Addr} {sl27 : Array (Option Value)} {oc27 kV27 dc27 pm27 ct27 : Value} {cd27 : Value} (a27 : PySem.W.nsIn K mainGlobals "run_polynomial" = some (some (.ref u27))) (l27 : K.lookup u27 = some ⟨oc27, od27, .func (PySem.W.fnOf "run_polynomial" "run_polynomial" (defArgs s_run_polynomial) (defBody s_run_polynomial) (defScope s_run_polynomial) .none kV27 dc27 pm27 an27 cd27 ct27), sl27⟩) (c27 : PySem.W.codeIn K cd27 "run_polynomial" = true) (k27 : PySem.W.keepIn K (.ref u27) = true)
    {u28 : Addr} {od28 an28 : Option Addr} {sl28 : Array (Option Value)} {oc28 kV28 dc28 pm28 ct28 : Value} {cd28 : Value} (a28 : PySem.W.nsIn K mainGlobals "_law_cup" = some (some (.ref u28))) (l28 : K.lookup u28 = some ⟨oc28, od28, .func (PySem.W.fnOf "_law_cup" "_law_cup" (defArgs s__law_cup) (defBody s__law_cup) (defScope s__law_cup) .none kV28 dc28 pm28 an28 cd28 ct28), sl28⟩) (c28 : PySem.W.codeIn K cd28 "_law_cup" = true) (k28 : PySem.W.keepIn K (.ref u28) = true)
    {u29 : Addr} {od29 an29 : Option Addr} {sl29 : Array (Option Value)} {oc29 kV29 dc29 pm29 ct29 : Value} {cd29 : Value} (a29 : PySem.W.nsIn K mainGlobals "_law_roll" = some (some (.ref u29))) (l29 : K.lookup u29 = some ⟨oc29, od29, .func (PySem.W.fnOf "_law_roll" "_law_roll" (defArgs s__law_roll) (defBody s__law_roll) (defScope s__law_roll) .none kV29 dc29 pm29 an29 cd29 ct29), sl29⟩) (c29 : PySem.W.codeIn K cd29 "_law_roll" = true) (k29 : PySem.W.keepIn K (.ref u29) = true)
    {u30 : Addr} {od30 an30 : Option Addr} {sl30 : Array (Option Value)} {oc30 kV30 dc30 pm30 ct30 : Value} {cd30 : Value} (a30 : PySem.W.nsIn K mainGlobals "_law_sort" = some (some (.ref u30))) (l30 : K.lookup u30 = some ⟨oc30, od30, .func (PySem.W.fnOf "_law_sort" "_law_sort" (defArgs s__law_sort) (defBody s__law_sort) (defScope s__law_sort) .none kV30 dc30 pm30 an30 cd30 ct30), sl30⟩) (c30 : PySem.W.codeIn K cd30 "_law_sort" = true) (k30 : PySem.W.keepIn K (.ref u30) = true)
    {u31 : Addr} {od31 an31 : Option Addr} {sl31 : Array (Option Value)} {oc31 kV31 dc31 pm31 ct31 : Value} {cd31 : Value} (a31 : PySem.W.nsIn K mainGlobals "_law_like" = some (some (.ref u31))) (l31 : K.lookup u31 = some ⟨oc31, od31, .func (PySem.W.fnOf "_law_like" "_law_like" (defArgs s__law_like) (defBody s__law_like) (defScope s__law_like) .none kV31 dc31 pm31 an31 cd31 ct31), sl31⟩) (c31 : PySem.W.codeIn K cd31 "_law_like" = true) (k31 : PySem.W.keepIn K (.ref u31) = true)
    {u32 : Addr} {od32 an32 : Option Addr} {sl32 : Array (Option Value)} {oc32 kV32 dc32 pm32 ct32 : Value} {cd32 : Value} (a32 : PySem.W.nsIn K mainGlobals "_law_divisor" = some (some (.ref u32))) (l32 : K.lookup u32 = some ⟨oc32, od32, .func (PySem.W.fnOf "_law_divisor" "_law_divisor" (defArgs s__law_divisor) (defBody s__law_divisor) (defScope s__law_divisor) .none kV32 dc32 pm32 an32 cd32 ct32), sl32⟩) (c32 : PySem.W.codeIn K cd32 "_law_divisor" = true) (k32 : PySem.W.keepIn K (.ref u32) = true)
    {u33 : Addr} {od33 an33 : Option Addr} {sl33 : Array (Option Value)} {oc33 kV33 dc33 pm33 ct33 : Value} {cd33 : Value} (a33 : PySem.W.nsIn K mainGlobals "_law_plain" = some (some (.ref u33))) (l33 : K.lookup u33 = some ⟨oc33, od33, .func (PySem.W.fnOf "_law_plain" "_law_plain" (defArgs s__law_plain) (defBody s__law_plain) (defScope s__law_plain) .none kV33 dc33 pm33 an33 cd33 ct33), sl33⟩) (c33 : PySem.W.codeIn K cd33 "_law_plain" = true) (k33 : PySem.W.keepIn K (.ref u33) = true)
    {u34 : Addr} {od34 an34 : Option Addr} {sl34 : Array (Option Value)} {oc34 kV34 dc34 pm34 ct34 : Value} {cd34 : Value} (a34 : PySem.W.nsIn K mainGlobals "_law_plus" = some (some (.ref u34))) (l34 : K.lookup u34 = some ⟨oc34, od34, .func (PySem.W.fnOf "_law_plus" "_law_plus" (defArgs s__law_plus) (defBody s__law_plus) (defScope s__law_plus) .none kV34 dc34 pm34 an34 cd34 ct34), sl34⟩) (c34 : PySem.W.codeIn K cd34 "_law_plus" = true) (k34 : PySem.W.keepIn K (.ref u34) = true)
    {u35 : Addr} {od35 an35 : Option Addr} {sl35 : Array (Option Value)} {oc35 kV35 dc35 pm35 ct35 : Value} {cd35 : Value} (a35 : PySem.W.nsIn K mainGlobals "_law_total" = some (some (.ref u35))) (l35 : K.lookup u35 = some ⟨oc35, od35, .func (PySem.W.fnOf "_law_total" "_law_total" (defArgs s__law_total) (defBody s__law_total) (defScope s__law_total) .none kV35 dc35 pm35 an35 cd35 ct35), sl35⟩) (c35 : PySem.W.codeIn K cd35 "_law_total" = true) (k35 : PySem.W.keepIn K (.ref u35) = true)
    {u36 : Addr} {od36 an36 : Option Addr} {sl36 : Array (Option Value)} {oc36 kV36 dc36 pm36 ct36 : Value} {cd36 : Value} (a36 : PySem.W.nsIn K mainGlobals "_law_chance" = some (some (.ref u36))) (l36 : K.lookup u36 = some ⟨oc36, od36, .func (PySem.W.fnOf "_law_chance" "_law_chance" (defArgs s__law_chance) (defBody s__law_chance) (defScope s__law_chance) .none kV36 dc36 pm36 an36 cd36 ct36), sl36⟩) (c36 : PySem.W.codeIn K cd36 "_law_chance" = true) (k36 : PySem.W.keepIn K (.ref u36) = true)
    {u37 : Addr} {od37 an37 : Option Addr} {sl37 : Array (Option Value)} {oc37 kV37 dc37 pm37 ct37 : Value} {cd37 : Value} (a37 : PySem.W.nsIn K mainGlobals "_law_parts" = some (some (.ref u37))) (l37 : K.lookup u37 = some ⟨oc37, od37, .func (PySem.W.fnOf "_law_parts" "_law_parts" (defArgs s__law_parts) (defBody s__law_parts) (defScope s__law_parts) .none kV37 dc37 pm37 an37 cd37 ct37), sl37⟩) (c37 : PySem.W.codeIn K cd37 "_law_parts" = true) (k37 : PySem.W.keepIn K (.ref u37) = true)
    {u38 : Addr} {od38 an38 : Option Addr} {sl38 : Array (Option Value)} {oc38 kV38 dc38 pm38 ct38 : Value} {cd38 : Value} (a38 : PySem.W.nsIn K mainGlobals "_law_lots" = some (some (.ref u38))) (l38 : K.lookup u38 = some ⟨oc38, od38, .func (PySem.W.fnOf "_law_lots" "_law_lots" (defArgs s__law_lots) (defBody s__law_lots) (defScope s__law_lots) .none kV38 dc38 pm38 an38 cd38 ct38), sl38⟩) (c38 : PySem.W.codeIn K cd38 "_law_lots" = true) (k38 : PySem.W.keepIn K (.ref u38) = true)
    {u39 : Addr} {od39 an39 : Option Addr} {sl39 : Array (Option Value)} {oc39 kV39 dc39 pm39 ct39 : Value} {cd39 : Value} (a39 : PySem.W.nsIn K mainGlobals "_law_lot_chance" = some (some (.ref u39))) (l39 : K.lookup u39 = some ⟨oc39, od39, .func (PySem.W.fnOf "_law_lot_chance" "_law_lot_chance" (defArgs s__law_lot_chance) (defBody s__law_lot_chance) (defScope s__law_lot_chance) .none kV39 dc39 pm39 an39 cd39 ct39), sl39⟩) (c39 : PySem.W.codeIn K cd39 "_law_lot_chance" = true) (k39 : PySem.W.keepIn K (.ref u39) = true)
    {u40 : Addr} {od40 an40 : Option Addr} {sl40 : Array (Option Value)} {oc40 kV40 dc40 pm40 ct40 : Value} {cd40 : Value} (a40 : PySem.W.nsIn K mainGlobals "_law_power" = some (some (.ref u40))) (l40 : K.lookup u40 = some ⟨oc40, od40, .func (PySem.W.fnOf "_law_power" "_law_power" (defArgs s__law_power) (defBody s__law_power) (defScope s__law_power) .none kV40 dc40 pm40 an40 cd40 ct40), sl40⟩) (c40 : PySem.W.codeIn K cd40 "_law_power" = true) (k40 : PySem.W.keepIn K (.ref u40) = true)
    {u41 : Addr} {od41 an41 : Option Addr} {sl41 : Array (Option Value)} {oc41 kV41 dc41 pm41 ct41 : Value} {cd41 : Value} (a41 : PySem.W.nsIn K mainGlobals "_law_bad_parts" = some (some (.ref u41))) (l41 : K.lookup u41 = some ⟨oc41, od41, .func (PySem.W.fnOf "_law_bad_parts" "_law_bad_parts" (defArgs s__law_bad_parts) (defBody s__law_bad_parts) (defScope s__law_bad_parts) .none kV41 dc41 pm41 an41 cd41 ct41), sl41⟩) (c41 : PySem.W.codeIn K cd41 "_law_bad_parts" = true) (k41 : PySem.W.keepIn K (.ref u41) = true)
    {u42 : Addr} {od42 an42 : Option Addr} {sl42 : Array (Option Value)} {oc42 kV42 dc42 pm42 ct42 : Value} {cd42 : Value} (a42 : PySem.W.nsIn K mainGlobals "_law_error" = some (some (.ref u42))) (l42 : K.lookup u42 = some ⟨oc42, od42, .func (PySem.W.fnOf "_law_error" "_law_error" (defArgs s__law_error) (defBody s__law_error) (defScope s__law_error) .none kV42 dc42 pm42 an42 cd42 ct42), sl42⟩) (c42 : PySem.W.codeIn K cd42 "_law_error" = true) (k42 : PySem.W.keepIn K (.ref u42) = true)
    {u43 : Addr} {od43 an43 : Option Addr} {sl43 : Array (Option Value)} {oc43 kV43 dc43 pm43 ct43 : Value} {cd43 : Value} (a43 : PySem.W.nsIn K mainGlobals "_law_has_run" = some (some (.ref u43))) (l43 : K.lookup u43 = some ⟨oc43, od43, .func (PySem.W.fnOf "_law_has_run" "_law_has_run" (defArgs s__law_has_run) (defBody s__law_has_run) (defScope s__law_has_run) .none kV43 dc43 pm43 an43 cd43 ct43), sl43⟩) (c43 : PySem.W.codeIn K cd43 "_law_has_run" = true) (k43 : PySem.W.keepIn K (.ref u43) = true)
    {u44 : Addr} {od44 an44 : Option Addr} {sl44 : Array (Option Value)} {oc44 kV44 dc44 pm44 ct44 : Value} {cd44 : Value} (a44 : PySem.W.nsIn K mainGlobals "_law_right" = some (some (.ref u44))) (l44 : K.lookup u44 = some ⟨oc44, od44, .func (PySem.W.fnOf "_law_right" "_law_right" (defArgs s__law_right) (defBody s__law_right) (defScope s__law_right) .none kV44 dc44 pm44 an44 cd44 ct44), sl44⟩) (c44 : PySem.W.codeIn K cd44 "_law_right" = true) (k44 : PySem.W.keepIn K (.ref u44) = true)
    {u45 : Addr} {od45 an45 : Option Addr} {sl45 : Array (Option Value)} {oc45 kV45 dc45 pm45 ct45 : Value} {cd45 : Value} (a45 : PySem.W.nsIn K mainGlobals "_law_great_right" = some (some (.ref u45))) (l45 : K.lookup u45 = some ⟨oc45, od45, .func (PySem.W.fnOf "_law_great_right" "_law_great_right" (defArgs s__law_great_right) (defBody s__law_great_right) (defScope s__law_great_right) .none kV45 dc45 pm45 an45 cd45 ct45), sl45⟩) (c45 : PySem.W.codeIn K cd45 "_law_great_right" = true) (k45 : PySem.W.keepIn K (.ref u45) = true)
    {u46 : Addr} {od46 an46 : Option Addr} {sl46 : Array (Option Value)} {oc46 kV46 dc46 pm46 ct46 : Value} {cc46 P46 : Addr} (a46 : PySem.W.nsIn K mainGlobals "_law_errors_right" = some (some (.ref u46))) (l46 : K.lookup u46 = some ⟨oc46, od46, .func (PySem.W.fnOf "_law_errors_right" "_law_errors_right" (defArgs s__law_errors_right) (defBody s__law_errors_right) (defScope s__law_errors_right) .none kV46 dc46 pm46 an46 (.ref cc46) ct46), sl46⟩) (c46 : PySem.W.codeIn K (.ref cc46) "_law_errors_right" = true) (k46 : PySem.W.keepIn K (.ref u46) = true) {oq46 : Value} {dq46 : Option Addr} {sq46 : Array (Option Value)} {vq46 : Array Value} (tb46 : K.lookup cc46 = some ⟨oq46, dq46, .fields vq46, sq46⟩) (tc46 : vq46[11]? = some (.ref P46)) (ch46 : PySem.W.codeHdIn K cc46 P46 = true) (nl46 : K.lookup P46 = none) (hp46 : h.get? P46 = some (PySem.W.tabObj #[]))
    {u47 : Addr} {od47 an47 : Option Addr} {sl47 : Array (Option Value)} {oc47 kV47 dc47 pm47 ct47 : Value} {cd47 : Value} (a47 : PySem.W.nsIn K mainGlobals "law" = some (some (.ref u47))) (l47 : K.lookup u47 = some ⟨oc47, od47, .func (PySem.W.fnOf "law" "law" (defArgs s_law) (defBody s_law) (defScope s_law) .none kV47 dc47 pm47 an47 cd47 ct47), sl47⟩) (c47 : PySem.W.codeIn K cd47 "law" = true) (k47 : PySem.W.keepIn K (.ref u47) = true)
    (nd : ([P46] : List Addr).Nodup)
    (z_isinstance : PySem.W.nsIn K mainGlobals "isinstance" = some none)
    (z_int : PySem.W.nsIn K mainGlobals "int" = some none)
    (z_bool : PySem.W.nsIn K mainGlobals "bool" = some none)
    (z_tuple : PySem.W.nsIn K mainGlobals "tuple" = some none)
    (z_len : PySem.W.nsIn K mainGlobals "len" = some none)
    (z_all : PySem.W.nsIn K mainGlobals "all" = some none)
    (z_max : PySem.W.nsIn K mainGlobals "max" = some none)
    (z_list : PySem.W.nsIn K mainGlobals "list" = some none)
    (z_zip : PySem.W.nsIn K mainGlobals "zip" = some none)
    (z_enumerate : PySem.W.nsIn K mainGlobals "enumerate" = some none)
    (z_range : PySem.W.nsIn K mainGlobals "range" = some none)
    (z_sum : PySem.W.nsIn K mainGlobals "sum" = some none)
    (z_abs : PySem.W.nsIn K mainGlobals "abs" = some none)
    (z_str : PySem.W.nsIn K mainGlobals "str" = some none)
    (m_gcd : PySem.W.nsIn K mainGlobals "gcd" = some (some (.builtin "math.gcd")))
    {t_GREAT : Tok} (c_GREAT : PySem.W.nsIn K mainGlobals "GREAT" = some (some (.int 1000000000000000000000000000000000000000000000000000000000000 t_GREAT)))
    {t_BOTTOM : Tok} (c_BOTTOM : PySem.W.nsIn K mainGlobals "BOTTOM" = some (some (.int 1000 t_BOTTOM)))
    {t_PARTS : Tok} (c_PARTS : PySem.W.nsIn K mainGlobals "PARTS" = some (some (.int 12 t_PARTS)))
    {t_LONG_polynomials : Tok} (c_LONG_polynomials : PySem.W.nsIn K mainGlobals "LONG_polynomials" = some (some (.int 41 t_LONG_polynomials)))
    {t_PART : Tok} (c_PART : PySem.W.nsIn K mainGlobals "PART" = some (some (.int 1000000000000000000000000000000 t_PART)))
    {t_RUN : Tok} (c_RUN : PySem.W.nsIn K mainGlobals "RUN" = some (some (.int 12 t_RUN)))
    {t_LONG_badruns : Tok} (c_LONG_badruns : PySem.W.nsIn K mainGlobals "LONG_badruns" = some (some (.int 40 t_LONG_badruns)))
    {t_MOST : Tok} (c_MOST : PySem.W.nsIn K mainGlobals "MOST" = some (some (.int 30 t_MOST)))
    {C0 : Addr} (ea0 : PySem.W.nsIn K mainGlobals "InvalidNumber" = some (some (.ref C0))) (eb0 : PySem.W.excIn K C0 [.type "ValueError", .type "Exception", .type "BaseException", .type "object"] "ValueError.__new__" = true) (ec0 : PySem.W.keepIn K (.ref C0) = true) (ed0 : PySem.W.subIn K (.ref C0) (.type "BaseException") = some true) (ee0 : PySem.W.typeIn K (.ref C0) = some (.type "type"))
    {C1 : Addr} (ea1 : PySem.W.nsIn K mainGlobals "InvalidChances" = some (some (.ref C1))) (eb1 : PySem.W.excIn K C1 [.type "ValueError", .type "Exception", .type "BaseException", .type "object"] "ValueError.__new__" = true) (ec1 : PySem.W.keepIn K (.ref C1) = true) (ed1 : PySem.W.subIn K (.ref C1) (.type "BaseException") = some true) (ee1 : PySem.W.typeIn K (.ref C1) = some (.type "type"))
    {C2 : Addr} (ea2 : PySem.W.nsIn K mainGlobals "InvalidPolynomial" = some (some (.ref C2))) (eb2 : PySem.W.excIn K C2 [.type "ValueError", .type "Exception", .type "BaseException", .type "object"] "ValueError.__new__" = true) (ec2 : PySem.W.keepIn K (.ref C2) = true) (ed2 : PySem.W.subIn K (.ref C2) (.type "BaseException") = some true) (ee2 : PySem.W.typeIn K (.ref C2) = some (.type "type"))
    {C3 : Addr} (ea3 : PySem.W.nsIn K mainGlobals "InvalidPortion" = some (some (.ref C3))) (eb3 : PySem.W.excIn K C3 [.type "ValueError", .type "Exception", .type "BaseException", .type "object"] "ValueError.__new__" = true) (ec3 : PySem.W.keepIn K (.ref C3) = true) (ed3 : PySem.W.subIn K (.ref C3) (.type "BaseException") = some true) (ee3 : PySem.W.typeIn K (.ref C3) = some (.type "type"))
    {CR : Addr} (ra : PySem.W.nsIn K mainGlobals "RoadError" = some (some (.ref CR)))
    (xg0 : PySem.W.findIn K (.ref C0) "__getattribute__" = some (some (.builtin "BaseException.__getattribute__")))
    (xk0 : PySem.W.findIn K (.ref C0) "__getattr__" = some none)
    (xs0 : PySem.W.subIn K (.ref C0) (.type "BaseException") = some true)
    (xd0 : PySem.W.hasDictIn K C0 = true)
    (xa0 : PySem.W.findIn K (.ref C0) "__class__" = some (some (.builtin "object.__class__")))
    (xm0 : PySem.W.mroIn K C0 (.type "object") = some true)
    (xg1 : PySem.W.findIn K (.ref C1) "__getattribute__" = some (some (.builtin "BaseException.__getattribute__")))
    (xk1 : PySem.W.findIn K (.ref C1) "__getattr__" = some none)
    (xs1 : PySem.W.subIn K (.ref C1) (.type "BaseException") = some true)
    (xd1 : PySem.W.hasDictIn K C1 = true)
    (xa1 : PySem.W.findIn K (.ref C1) "__class__" = some (some (.builtin "object.__class__")))
    (xm1 : PySem.W.mroIn K C1 (.type "object") = some true)
    (xg2 : PySem.W.findIn K (.ref C2) "__getattribute__" = some (some (.builtin "BaseException.__getattribute__")))
    (xk2 : PySem.W.findIn K (.ref C2) "__getattr__" = some none)
    (xs2 : PySem.W.subIn K (.ref C2) (.type "BaseException") = some true)
    (xd2 : PySem.W.hasDictIn K C2 = true)
    (xa2 : PySem.W.findIn K (.ref C2) "__class__" = some (some (.builtin "object.__class__")))
    (xm2 : PySem.W.mroIn K C2 (.type "object") = some true)
    (xg3 : PySem.W.findIn K (.ref C3) "__getattribute__" = some (some (.builtin "BaseException.__getattribute__")))
    (xk3 : PySem.W.findIn K (.ref C3) "__getattr__" = some none)
    (xs3 : PySem.W.subIn K (.ref C3) (.type "BaseException") = some true)
    (xd3 : PySem.W.hasDictIn K C3 = true)
    (xa3 : PySem.W.findIn K (.ref C3) "__class__" = some (some (.builtin "object.__class__")))
    (xm3 : PySem.W.mroIn K C3 (.type "object") = some true)
    (xn : PySem.W.specialIn K (.builtin "object.__class__") "__get__" = some (some (.builtin "getset_descriptor.__get__"))) (xt : PySem.W.takesIn K (.builtin "object.__class__") = some true)
    (q0_0 : PySem.W.kitOne K (.ref C0) (.ref C0) = some (isT 0 0))
    (q0_1 : PySem.W.kitOne K (.ref C0) (.ref C1) = some (isT 0 1))
    (q0_2 : PySem.W.kitOne K (.ref C0) (.ref C2) = some (isT 0 2))
    (q0_3 : PySem.W.kitOne K (.ref C0) (.ref C3) = some (isT 0 3))
    (w0 : PySem.W.exmOne K (.ref C0) (.ref CR) = some true)
    (q1_0 : PySem.W.kitOne K (.ref C1) (.ref C0) = some (isT 1 0))
    (q1_1 : PySem.W.kitOne K (.ref C1) (.ref C1) = some (isT 1 1))
    (q1_2 : PySem.W.kitOne K (.ref C1) (.ref C2) = some (isT 1 2))
    (q1_3 : PySem.W.kitOne K (.ref C1) (.ref C3) = some (isT 1 3))
    (w1 : PySem.W.exmOne K (.ref C1) (.ref CR) = some true)
    (q2_0 : PySem.W.kitOne K (.ref C2) (.ref C0) = some (isT 2 0))
    (q2_1 : PySem.W.kitOne K (.ref C2) (.ref C1) = some (isT 2 1))
    (q2_2 : PySem.W.kitOne K (.ref C2) (.ref C2) = some (isT 2 2))
    (q2_3 : PySem.W.kitOne K (.ref C2) (.ref C3) = some (isT 2 3))
    (w2 : PySem.W.exmOne K (.ref C2) (.ref CR) = some true)
    (q3_0 : PySem.W.kitOne K (.ref C3) (.ref C0) = some (isT 3 0))
    (q3_1 : PySem.W.kitOne K (.ref C3) (.ref C1) = some (isT 3 1))
    (q3_2 : PySem.W.kitOne K (.ref C3) (.ref C2) = some (isT 3 2))
    (q3_3 : PySem.W.kitOne K (.ref C3) (.ref C3) = some (isT 3 3))
    (w3 : PySem.W.exmOne K (.ref C3) (.ref CR) = some true) :
    LamX.LawAtS PySem.Challenge.rw_roadsfail_k41_whole_bad_runs w K (L2N.CX PySem.Challenge.rw_roadsfail_k41_whole_bad_runs.prog w) 16 63 "script" mg fa h := by
  have e := hfa.symm.trans (PySem.W.mg_of X G a47)
  cases e
  refine ⟨PySem.W.fnOf "law" "law" (defArgs s_law) (defBody s_law) (defScope s_law) .none kV47 dc47 pm47 an47 cd47 ct47, ([(cc46, P46)] : List (Addr × Addr)), spT K [(P46, ("_law_errors_right" : Str) ++ ".<locals>." ++ "<lambda>")], (fun p hp => by
    simp only [List.mem_cons, List.not_mem_nil, or_false] at hp
    subst hp
    exact hp46), (fun p hp => by
    simp only [List.mem_cons, List.not_mem_nil, or_false] at hp
    subst hp
    exact nl46), (fun p hp => by
    simp only [List.mem_cons, List.not_mem_nil, or_false] at hp
    subst hp
    exact PySem.W.codeHd_of_K X ch46), fun s v => .of_eq rfl, fun H a ns h1 h2 h3 h4 => ⟨a, ns, rfl, h4, h1, (fun p hp => by
    simp only [List.mem_cons, List.not_mem_nil, or_false] at hp
    subst hp
    exact h3 (cc46, P46) (by simp)), fun _ => rfl⟩, fun base hK hG hTB => ?_⟩
  have T : Top ⟨K, fun i => ([u23, u24, u25, u26, u27] : List Addr).getD i fa, fun i => ([C0, C1, C2, C3, CR] : List Addr).getD i fa, [(P46, ("_law_errors_right" : Str) ++ ".<locals>." ++ "<lambda>")]⟩ K mg base := ⟨rfl, fnC_mk X G a0 l0 c0 k0, fnC_mk X G a1 l1 c1 k1, fnC_mk X G a2 l2 c2 k2, fnC_mk X G a3 l3 c3 k3, fnC_mk X G a4 l4 c4 k4, fnC_mk X G a5 l5 c5 k5, fnC_mk X G a6 l6 c6 k6, fnC_mk X G a7 l7 c7 k7, fnC_mk X G a8 l8 c8 k8, fnC_mk X G a9 l9 c9 k9, fnC_mk X G a10 l10 c10 k10, fnC_mk X G a11 l11 c11 k11, fnC_mk X G a12 l12 c12 k12, fnC_mk X G a13 l13 c13 k13, fnC_mk X G a14 l14 c14 k14, fnC_mk X G a15 l15 c15 k15, fnC_mk X G a16 l16 c16 k16, fnC_mk X G a17 l17 c17 k17, fnC_mk X G a18 l18 c18 k18, fnC_mk X G a19 l19 c19 k19, fnC_mk X G a20 l20 c20 k20, fnC_mk X G a21 l21 c21 k21, fnC_mk X G a22 l22 c22 k22, fnC_mk X G a23 l23 c23 k23, fnC_mk X G a24 l24 c24 k24, fnC_mk X G a25 l25 c25 k25, fnC_mk X G a26 l26 c26 k26, fnC_mk X G a27 l27 c27 k27, fnC_mk X G a28 l28 c28 k28, fnC_mk X G a29 l29 c29 k29, fnC_mk X G a30 l30 c30 k30, fnC_mk X G a31 l31 c31 k31, fnC_mk X G a32 l32 c32 k32, fnC_mk X G a33 l33 c33 k33, fnC_mk X G a34 l34 c34 k34, fnC_mk X G a35 l35 c35 k35, fnC_mk X G a36 l36 c36 k36, fnC_mk X G a37 l37 c37 k37, fnC_mk X G a38 l38 c38 k38, fnC_mk X G a39 l39 c39 k39, fnC_mk X G a40 l40 c40 k40, fnC_mk X G a41 l41 c41 k41, fnC_mk X G a42 l42 c42 k42, fnC_mk X G a43 l43 c43 k43, fnC_mk X G a44 l44 c44 k44, fnC_mk X G a45 l45 c45 k45, ⟨u46, _, cc46, P46, fun_mk l46 c46 k46, PySem.W.mg_of X G a46, rfl, hTB (cc46, P46) (List.Mem.head _), (List.Mem.head _), (fun p hp e => tab_uq (ps := ([(P46, ("_law_errors_right" : Str) ++ ".<locals>." ++ "<lambda>")] : List (Addr × Str))) nd hp e (List.Mem.head _))⟩, PySem.W.mg_none_of X G z_isinstance, PySem.W.mg_none_of X G z_int, PySem.W.mg_none_of X G z_bool, PySem.W.mg_none_of X G z_tuple, PySem.W.mg_none_of X G z_len, PySem.W.mg_none_of X G z_all, PySem.W.mg_none_of X G z_max, PySem.W.mg_none_of X G z_list, PySem.W.mg_none_of X G z_zip, PySem.W.mg_none_of X G z_enumerate, PySem.W.mg_none_of X G z_range, PySem.W.mg_none_of X G z_sum, PySem.W.mg_none_of X G z_abs, PySem.W.mg_none_of X G z_str, PySem.W.mg_of X G m_gcd, int_mk X G c_GREAT, int_mk X G c_BOTTOM, int_mk X G c_PARTS, int_mk X G c_LONG_polynomials, int_mk X G c_PART, int_mk X G c_RUN, int_mk X G c_LONG_badruns, int_mk X G c_MOST, ⟨PySem.W.mg_of X G ea0, eb0, ec0, ed0, ee0⟩, ⟨PySem.W.mg_of X G ea1, eb1, ec1, ed1, ee1⟩, ⟨PySem.W.mg_of X G ea2, eb2, ec2, ed2, ee2⟩, ⟨PySem.W.mg_of X G ea3, eb3, ec3, ed3, ee3⟩, PySem.W.mg_of X G a23, PySem.W.mg_of X G a24, PySem.W.mg_of X G a25, PySem.W.mg_of X G a26, PySem.W.mg_of X G a27, PySem.W.mg_of X G ra, (fun c h => match c, h with | 0, _ => ⟨xg0, xk0, xs0, xd0, xa0, xn, xt, xm0⟩ | 1, _ => ⟨xg1, xk1, xs1, xd1, xa1, xn, xt, xm1⟩ | 2, _ => ⟨xg2, xk2, xs2, xd2, xa2, xn, xt, xm2⟩ | 3, _ => ⟨xg3, xk3, xs3, xd3, xa3, xn, xt, xm3⟩ | c + 4, h => absurd h (by simp [okE, Nat.blt])), (fun c i h hi => match c, i, h, hi with | 0, 0, _, _ => q0_0 | 0, 1, _, _ => q0_1 | 0, 2, _, _ => q0_2 | 0, 3, _, _ => q0_3 | 1, 0, _, _ => q1_0 | 1, 1, _, _ => q1_1 | 1, 2, _, _ => q1_2 | 1, 3, _, _ => q1_3 | 2, 0, _, _ => q2_0 | 2, 1, _, _ => q2_1 | 2, 2, _, _ => q2_2 | 2, 3, _, _ => q2_3 | 3, 0, _, _ => q3_0 | 3, 1, _, _ => q3_1 | 3, 2, _, _ => q3_2 | 3, 3, _, _ => q3_3 | c + 4, i, h, hi => absurd h (by simp [okE, Nat.blt]) | c, i + 4, h, hi => absurd hi (by omega)), (fun c h => match c, h with | 0, _ => w0 | 1, _ => w1 | 2, _ => w2 | 3, _ => w3 | c + 4, h => absurd h (by simp [okE, Nat.blt]))⟩
  exact ok_law T hlaw (fun_mk (st := s_law) l47 c47 k47)
end W41

namespace W41
open PySem L2 PL
theorem dv_ret {x : Nat} {j : Slot} : B1__law_divisor [.pu (.int (x : Int)), .pu (.int ((0 : Nat) : Int)), j] = .rt (.int (x : Int)) [.pu (.int (x : Int)), .pu (.int ((0 : Nat) : Int)), j] := by
  simp [dEq_int]
theorem dv_step {x y : Nat} {j : Slot} (hy : y ≠ 0) : B1__law_divisor [.pu (.int (x : Int)), .pu (.int (y : Int)), j] = .nx [.pu (.int (y : Int)), .pu (.int ((x % y : Nat) : Int)), j] := by
  have e : (x : Int).fmod (y : Int) = ((x % y : Nat) : Int) := by rw [Int.fmod_eq_emod_of_nonneg _ (by omega)]; simp
  have hy' : (y : Int) ≠ 0 := by omega
  simp [dEq_int, hy, hy', dMod, fInt, e]
theorem dv_loop {g : Nat} : ∀ (k x y : Nat) (xs : List D) (j : Slot), y < 2 ^ k → Nat.gcd x y = g → 2 * k + 1 ≤ xs.length → ∃ ε', forF T1__law_divisor B1__law_divisor xs [.pu (.int (x : Int)), .pu (.int (y : Int)), j] = .rt (.int (g : Int)) ε' := by
  have stop : ∀ (x : Nat) (xs : List D) (j : Slot), Nat.gcd x 0 = g → 1 ≤ xs.length → ∃ ε', forF T1__law_divisor B1__law_divisor xs [.pu (.int (x : Int)), .pu (.int ((0 : Nat) : Int)), j] = .rt (.int (g : Int)) ε' := by
    intro x xs j e hl
    cases xs with
    | nil => simp at hl
    | cons d xs =>
      rw [Nat.gcd_zero_right] at e
      subst e
      have t1 : T1__law_divisor d [.pu (.int (x : Int)), .pu (.int ((0 : Nat) : Int)), j] = .ok [.pu (.int (x : Int)), .pu (.int ((0 : Nat) : Int)), .pu d] := by simp
      refine ⟨[.pu (.int (x : Int)), .pu (.int ((0 : Nat) : Int)), .pu d], ?_⟩
      simp only [forF, t1, Res.ne, dv_ret]
  intro k
  induction k with
  | zero =>
    intro x y xs j hy e hl
    have : y = 0 := by simpa using hy
    subst this
    exact stop x xs j e (by omega)
  | succ k ih =>
    intro x y xs j hy e hl
    by_cases h0 : y = 0
    · subst h0
      exact stop x xs j e (by omega)
    · cases xs with
      | nil => simp at hl
      | cons d xs =>
        have t1 : T1__law_divisor d [.pu (.int (x : Int)), .pu (.int (y : Int)), j] = .ok [.pu (.int (x : Int)), .pu (.int (y : Int)), .pu d] := by simp
        simp only [forF, t1, Res.ne, dv_step h0]
        have e2 : Nat.gcd y (x % y) = g := by rw [← e, Nat.gcd_comm y, ← Nat.gcd_rec, Nat.gcd_comm]
        simp only [List.length_cons] at hl
        by_cases h1 : x % y = 0
        · rw [h1] at e2 ⊢
          exact stop y xs (.pu d) e2 (by omega)
        · cases xs with
          | nil => simp at hl
          | cons d2 xs =>
            have t2 : T1__law_divisor d2 [.pu (.int (y : Int)), .pu (.int ((x % y : Nat) : Int)), .pu d] = .ok [.pu (.int (y : Int)), .pu (.int ((x % y : Nat) : Int)), .pu d2] := by simp
            simp only [forF, t2, Res.ne, dv_step h1]
            have e3 : Nat.gcd (x % y) (y % (x % y)) = g := by rw [← e2, Nat.gcd_comm (x % y), ← Nat.gcd_rec, Nat.gcd_comm]
            simp only [List.length_cons] at hl
            refine ih (x % y) (y % (x % y)) xs (.pu d2) ?_ e3 (by omega)
            have l1 : x % y < y := Nat.mod_lt _ (by omega)
            have l2 : y % (x % y) < x % y := Nat.mod_lt _ (by omega)
            have l3 := Nat.div_add_mod y (x % y)
            have l4 : 1 ≤ y / (x % y) := Nat.div_pos (by omega) (by omega)
            have l5 : x % y ≤ (x % y) * (y / (x % y)) := Nat.le_mul_of_pos_right _ (by omega)
            rw [Nat.pow_succ] at hy
            omega
theorem divisor_ok {t b : Int} (hs : b.natAbs < 2 ^ 900) : g__law_divisor [.int t, .int b] = .ok (.int ((Nat.gcd t.natAbs b.natAbs : Nat) : Int)) := by
  have ea : ∀ x : Int, (if x < 0 then -x else x) = (x.natAbs : Int) := fun x => by split <;> omega
  obtain ⟨ε', e⟩ := dv_loop 900 t.natAbs b.natAbs ((List.range 9000).map fun i : Nat => D.int (i : Int)) .em hs rfl (by simp)
  have s1 : S1__law_divisor [.pu (.int (t.natAbs : Int)), .pu (.int (b.natAbs : Int)), .em] = .ok ((List.range 9000).map fun i : Nat => D.int (i : Int), [.pu (.int (t.natAbs : Int)), .pu (.int (b.natAbs : Int)), .em]) :=
    iCall_ok (g := fRange) (fs := aCons (eC (.int 9000)) aNil) (ds := [.int 9000]) (by simp) (fRange1 (k := 9000) (by rfl) (by omega))
  show outRes (sSeq _ _ (startE 3 [.int t, .int b])) = _
  refine out_seq (ε1 := [.pu (.int (t.natAbs : Int)), .pu (.int (b.natAbs : Int)), .em]) (by simp [fAbs, ea]) ?_
  simp only [sSeq, sFor, s1, Res.out, e, Out.andThen, outRes]
theorem low_ok {t b : Int} (hb : 0 < b) (hs : b.natAbs < 2 ^ 840) : g__law_plain [.int t, .int b] = .ok (rd ((t : Rat) / (b : Rat))) := by
  have p : (2 : Nat) ^ 840 ≤ 2 ^ 900 := Nat.pow_le_pow_right (by decide) (by decide)
  have hb2 : b.natAbs < 2 ^ 900 := by omega
  have g0 : 0 < Nat.gcd t.natAbs b.natAbs := Nat.gcd_pos_of_pos_right _ (by omega)
  have hg : divOk ((Nat.gcd t.natAbs b.natAbs : Nat) : Int) = true := by
    have h3 : Nat.gcd t.natAbs b.natAbs ≤ b.natAbs := Nat.gcd_le_right _ (by omega)
    simp only [divOk, Int.natAbs_natCast, decide_eq_true_eq]
    refine ⟨by omega, ?_⟩
    rw [Nat.log2_lt (by omega)]
    exact Nat.lt_of_le_of_lt h3 (Nat.lt_of_lt_of_le hb2 (Nat.pow_le_pow_right (by decide) (by decide)))
  have e1 := (lowP (t := t) hb).1
  have e2 := (lowP (t := t) hb).2
  have dv := divisor_ok (t := t) hb2
  simp [g__law_plain, b__law_plain, outRes, dv, dDiv, hg, rd, e1, e2]
theorem lowest_ok {t b : Int} (hb : 0 < b) (hs : b.natAbs < 2 ^ 840) : g_lowest [.int t, .int b] = .ok (rd ((t : Rat) / (b : Rat))) := by
  have g0 : 0 < Nat.gcd t.natAbs b.natAbs := Nat.gcd_pos_of_pos_right _ (by omega)
  have hg : divOk ((Nat.gcd t.natAbs b.natAbs : Nat) : Int) = true := by
    have h3 : Nat.gcd t.natAbs b.natAbs ≤ b.natAbs := Nat.gcd_le_right _ (by omega)
    simp only [divOk, Int.natAbs_natCast, decide_eq_true_eq]
    refine ⟨by omega, ?_⟩
    rw [Nat.log2_lt (by omega)]
    exact Nat.lt_of_le_of_lt h3 (Nat.lt_of_lt_of_le hs (Nat.pow_le_pow_right (by decide) (by decide)))
  have e1 := (lowP (t := t) hb).1
  have e2 := (lowP (t := t) hb).2
  simp [g_lowest, b_lowest, outRes, dDiv, hg, hb, rd, e1, e2]
theorem denp (a b : Rat) : 0 < (a.den : Int) * (b.den : Int) := Int.mul_pos (by have := a.den_pos; omega) (by have := b.den_pos; omega)
theorem den840 {a b : Rat} (x : Sz a) (y : Sz b) : ((a.den : Int) * (b.den : Int)).natAbs < 2 ^ 840 := by
  rw [Int.natAbs_mul, Int.natAbs_natCast, Int.natAbs_natCast]
  exact mul420 x.d y.d
theorem m_nn {a b : Rat} (x : Sz a) (y : Sz b) : dMul (.int a.num) (.int b.num) = .ok (.int (a.num * b.num)) := by simp [dMul, mulOk420 x.n y.n]
theorem m_nd {a b : Rat} (x : Sz a) (y : Sz b) : dMul (.int a.num) (.int (b.den : Int)) = .ok (.int (a.num * (b.den : Int))) := by
  have h := y.d
  simp [dMul, mulOk420 x.n (show ((b.den : Nat) : Int).natAbs < 2 ^ 420 from h)]
theorem m_dd {a b : Rat} (x : Sz a) (y : Sz b) : dMul (.int (a.den : Int)) (.int (b.den : Int)) = .ok (.int ((a.den : Int) * (b.den : Int))) := by
  simp [dMul, mulOk420 (show ((a.den : Nat) : Int).natAbs < 2 ^ 420 from x.d) (show ((b.den : Nat) : Int).natAbs < 2 ^ 420 from y.d)]
theorem m_dn {a b : Rat} (x : Sz a) (y : Sz b) : dMul (.int (a.den : Int)) (.int b.num) = .ok (.int ((a.den : Int) * b.num)) := by
  simp [dMul, mulOk420 (show ((a.den : Nat) : Int).natAbs < 2 ^ 420 from x.d) y.n]
theorem times_ok {a b : Rat} (x : Sz a) (y : Sz b) : g_times [rd a, rd b] = .ok (rd (a * b)) := by
  have e := lowest_ok (t := a.num * b.num) (denp a b) (den840 x y)
  rw [mul_as] at e
  have m1 := m_nn x y
  have m2 := m_dd x y
  unfold rd at e ⊢
  simp [g_times, b_times, outRes, m1, m2, e]
theorem plus_ok {a b : Rat} (x : Sz a) (y : Sz b) : g_plus [rd a, rd b] = .ok (rd (a + b)) := by
  have e := lowest_ok (t := a.num * (b.den : Int) + b.num * (a.den : Int)) (denp a b) (den840 x y)
  rw [add_as] at e
  have m1 := m_nd x y
  have m2 := m_dd x y
  have m3 := m_nd y x
  unfold rd at e ⊢
  simp [g_plus, b_plus, outRes, m1, m2, m3, dAdd, e]
theorem lplus_ok {a b : Rat} (x : Sz a) (y : Sz b) : g__law_plus [rd a, rd b] = .ok (rd (a + b)) := by
  have e := low_ok (t := a.num * (b.den : Int) + b.num * (a.den : Int)) (denp a b) (den840 x y)
  rw [add_as] at e
  have m1 := m_nd x y
  have m2 := m_dd x y
  have m3 := m_nd y x
  unfold rd at e ⊢
  simp [g__law_plus, b__law_plus, outRes, m1, m2, m3, dAdd, e]
theorem rest_ok (a : Rat) : g_rest_of [rd a] = .ok (rd (1 - a)) := by
  have hb : (0 : Int) < (a.den : Int) := by have := a.den_pos; omega
  have l := lowP (t := (a.den : Int) - a.num) hb
  have c : Nat.gcd ((a.den : Int) - a.num).natAbs ((a.den : Int)).natAbs = 1 := by
    have h := a.reduced
    have i1 : ((Nat.gcd ((a.den : Int) - a.num).natAbs ((a.den : Int)).natAbs : Nat) : Int) ∣ (a.den : Int) := by
      have := Nat.gcd_dvd_right ((a.den : Int) - a.num).natAbs ((a.den : Int)).natAbs
      rw [Int.natAbs_natCast] at this ⊢
      exact Int.natCast_dvd_natCast.mpr this
    have i2 : ((Nat.gcd ((a.den : Int) - a.num).natAbs ((a.den : Int)).natAbs : Nat) : Int) ∣ (a.den : Int) - a.num := by
      have := Nat.gcd_dvd_left ((a.den : Int) - a.num).natAbs ((a.den : Int)).natAbs
      exact Int.ofNat_dvd_left.mpr this
    have i3 : ((Nat.gcd ((a.den : Int) - a.num).natAbs ((a.den : Int)).natAbs : Nat) : Int) ∣ a.num := by
      have := Int.dvd_sub i1 i2
      rwa [show (a.den : Int) - ((a.den : Int) - a.num) = a.num by omega] at this
    have j1 := Int.natCast_dvd_natCast.mp i1
    have j2 := Int.ofNat_dvd_left.mp i3
    have := Nat.dvd_gcd j2 j1
    rw [h] at this
    exact Nat.dvd_one.mp this
  rw [rest_as, c] at l
  have l1 := l.1
  have l2 := l.2
  simp only [Int.natCast_one, Int.fdiv_one] at l1 l2
  show Res.ok (D.tup [.int ((a.den : Int) - a.num), .int (a.den : Int)]) = _
  unfold rd
  rw [← l1, ← l2]
end W41
namespace W41
/-! sums -/
def tot (l : List Rat) : Rat := l.foldl (· + ·) 0
theorem foldl_acc : ∀ (l : List Rat) (z : Rat), l.foldl (· + ·) z = z + tot l
  | [], z => by show z = z + 0; grind
  | c :: l, z => by
    have e1 := foldl_acc l (z + c)
    have e2 := foldl_acc l (0 + c)
    simp only [tot, List.foldl_cons] at *
    rw [e1, e2]
    grind
theorem tot_cons (a : Rat) (l : List Rat) : tot (a :: l) = a + tot l := by
  show (a :: l).foldl (· + ·) 0 = _
  rw [List.foldl_cons, foldl_acc]
  grind
theorem tot_app (a b : List Rat) : tot (a ++ b) = tot a + tot b := by
  show (a ++ b).foldl (· + ·) 0 = _
  rw [List.foldl_append, foldl_acc]
  rfl
theorem tot_map_mul {α : Type} (f : α → Rat) (c : Rat) : ∀ l : List α, tot (l.map fun x => f x * c) = tot (l.map f) * c
  | [] => by show (0 : Rat) = 0 * c; grind
  | a :: l => by
    rw [List.map_cons, List.map_cons, tot_cons, tot_cons, tot_map_mul f c l]
    grind
theorem tot_nn {α : Type} {f : α → Rat} : ∀ {l : List α}, (∀ x ∈ l, 0 ≤ f x) → 0 ≤ tot (l.map f)
  | [], _ => by show (0 : Rat) ≤ 0; exact Rat.le_refl
  | a :: l, h => by
    rw [List.map_cons, tot_cons]
    exact Rat.add_nonneg (h a (by simp)) (tot_nn fun x hx => h x (by simp [hx]))
theorem tot_filter_le {α : Type} {f : α → Rat} {p q : α → Bool} : ∀ {l : List α}, (∀ x ∈ l, 0 ≤ f x) → (∀ x ∈ l, p x = true → q x = true) → tot ((l.filter p).map f) ≤ tot ((l.filter q).map f)
  | [], _, _ => Rat.le_refl
  | a :: l, h, hpq => by
    have ih := tot_filter_le (f := f) (p := p) (q := q) (l := l) (fun x hx => h x (by simp [hx])) (fun x hx => hpq x (by simp [hx]))
    have h0 := h a (by simp)
    have h1 := hpq a (by simp)
    rw [List.filter_cons, List.filter_cons]
    by_cases hp : p a = true
    · rw [if_pos hp, if_pos (h1 hp), List.map_cons, List.map_cons, tot_cons, tot_cons]
      grind
    · rw [if_neg hp]
      by_cases hq : q a = true
      · rw [if_pos hq, List.map_cons, tot_cons]
        grind
      · rw [if_neg hq]
        exact ih
theorem tot_ind {α : Type} (f : α → Rat) (p : α → Bool) : ∀ l : List α, tot (l.map fun x => f x * (if p x then 0 else 1)) = tot ((l.filter fun x => !p x).map f)
  | [] => rfl
  | a :: l => by
    rw [List.map_cons, tot_cons, tot_ind f p l, List.filter_cons]
    by_cases h : p a = true
    · simp only [h, if_true, Bool.not_true, Bool.false_eq_true, if_false]
      grind
    · have h' : p a = false := by simpa using h
      simp only [h', Bool.false_eq_true, if_false, Bool.not_false, if_true, List.map_cons, tot_cons]
      grind
/-! states -/
def step (s : List Rat) (c : Rat) : List Rat := tot s * c :: s.dropLast.map (· * (1 - c))
def stp (L : List Rat) (s : List Rat) : List Rat := L.foldl step s
def s0 (k : Nat) (x : Rat) : List Rat := x :: List.replicate (k - 1) 0
def row (L : List Rat) (k : Nat) : Rat := tot (stp L (s0 k 1))
def rgs (k : Nat) : Nat → Rat → List Rat → Rat
  | _, _, [] => 0
  | a, lead, c :: L => if a < k then tot ((stp L (s0 k (lead * c))).take (k - a)) + rgs k (a + 1) (lead * (1 - c)) L else 0
def ring (L : List Rat) (k : Nat) : Rat := if k > L.length then 1 else rgs k 0 1 L
def comb (x : Rat) (s : List Rat) (y : Rat) (t : List Rat) : List Rat := List.zipWith (fun a b => x * a + y * b) s t
theorem tot_comb (x y : Rat) : ∀ (s t : List Rat), s.length = t.length → tot (comb x s y t) = x * tot s + y * tot t
  | [], [], _ => by show (0 : Rat) = x * 0 + y * 0; grind
  | a :: s, b :: t, h => by
    have e := tot_comb x y s t (by simpa using h)
    unfold comb at e ⊢
    rw [List.zipWith_cons_cons, tot_cons, tot_cons, tot_cons, e]
    grind
  | [], b :: t, h => by simp at h
  | a :: s, [], h => by simp at h
theorem step_len (s : List Rat) (c : Rat) (h : 1 ≤ s.length) : (step s c).length = s.length := by
  simp only [step, List.length_cons, List.length_map, List.length_dropLast]
  omega
theorem map_comb (x y c : Rat) : ∀ s t : List Rat, (comb x s y t).map (· * c) = comb x (s.map (· * c)) y (t.map (· * c))
  | [], _ => by simp [comb]
  | a :: s, [] => by simp [comb]
  | a :: s, b :: t => by
    have e := map_comb x y c s t
    unfold comb at e ⊢
    simp only [List.zipWith_cons_cons, List.map_cons]
    rw [e]
    congr 1
    grind
theorem drop_comb (x y : Rat) : ∀ s t : List Rat, s.length = t.length → (comb x s y t).dropLast = comb x s.dropLast y t.dropLast
  | [], [], _ => rfl
  | [a], [b], _ => rfl
  | a :: c :: s, b :: d :: t, h => by
    have e := drop_comb x y (c :: s) (d :: t) (by simpa using h)
    unfold comb at e ⊢
    simp only [List.zipWith_cons_cons, List.dropLast_cons_cons] at e ⊢
    rw [e]
  | [], b :: t, h => by simp at h
  | a :: s, [], h => by simp at h
  | [a], b :: d :: t, h => by simp at h
  | a :: c :: s, [b], h => by simp at h
theorem step_comb (x y c : Rat) (s t : List Rat) (h : s.length = t.length) : step (comb x s y t) c = comb x (step s c) y (step t c) := by
  unfold step
  rw [tot_comb x y s t h, drop_comb x y s t h, map_comb]
  unfold comb
  rw [List.zipWith_cons_cons]
  congr 1
  grind
theorem step_aff (c : Rat) (s : List Rat) : step s c = comb (1 - c) (step s 0) c (step s 1) := by
  unfold step comb
  rw [List.zipWith_cons_cons]
  congr 1
  · grind
  · generalize s.dropLast = t
    induction t with
    | nil => rfl
    | cons a t ih =>
      simp only [List.map_cons, List.zipWith_cons_cons]
      rw [← ih]
      congr 1
      grind
theorem stp_len (L : List Rat) : ∀ s : List Rat, 1 ≤ s.length → (stp L s).length = s.length := by
  induction L with
  | nil => intro s _; rfl
  | cons c L ih =>
    intro s h
    have l := step_len s c h
    show (stp L (step s c)).length = _
    rw [ih _ (by omega), l]
theorem stp_comb (x y : Rat) : ∀ (L s t : List Rat), 1 ≤ s.length → s.length = t.length → stp L (comb x s y t) = comb x (stp L s) y (stp L t)
  | [], s, t, _, _ => rfl
  | c :: L, s, t, h1, h => by
    have e := stp_comb x y L (step s c) (step t c) (by rw [step_len s c h1]; exact h1) (by rw [step_len s c h1, step_len t c (by omega), h])
    show stp L (step (comb x s y t) c) = _
    rw [step_comb x y c s t h, e]
    rfl
theorem stp_app (A B s : List Rat) : stp (A ++ B) s = stp B (stp A s) := by simp only [stp, List.foldl_append]
theorem stp_aff (A : List Rat) (c : Rat) (B s : List Rat) (h : 1 ≤ s.length) : stp (A ++ c :: B) s = comb (1 - c) (stp (A ++ 0 :: B) s) c (stp (A ++ 1 :: B) s) := by
  have l := stp_len A s h
  rw [stp_app, stp_app, stp_app]
  show stp B (step (stp A s) c) = comb (1 - c) (stp B (step (stp A s) 0)) c (stp B (step (stp A s) 1))
  rw [step_aff c, stp_comb _ _ B _ _ (by rw [step_len _ _ (by omega)]; omega) (by rw [step_len _ _ (by omega), step_len _ _ (by omega)])]
theorem s0_len (k : Nat) (x : Rat) : 1 ≤ (s0 k x).length := by simp [s0]
theorem s0_comb (k : Nat) (x y u v : Rat) : s0 k (x * u + y * v) = comb x (s0 k u) y (s0 k v) := by
  unfold s0 comb
  rw [List.zipWith_cons_cons]
  congr 1
  rw [List.zipWith_replicate, Nat.min_self]
  congr 1
  grind
theorem tot_take_comb (x y : Rat) (s t : List Rat) (m : Nat) (h : s.length = t.length) : tot ((comb x s y t).take m) = x * tot (s.take m) + y * tot (t.take m) := by
  have e : (comb x s y t).take m = comb x (s.take m) y (t.take m) := by unfold comb; rw [List.take_zipWith]
  rw [e, tot_comb x y _ _ (by rw [List.length_take, List.length_take, h])]
/-! straight in each chance -/
def MA (n : Nat) (F : List Rat → Rat) : Prop := ∀ A c B, A.length + B.length + 1 = n → F (A ++ c :: B) = (1 - c) * F (A ++ 0 :: B) + c * F (A ++ 1 :: B)
theorem row_MA (n k : Nat) : MA n fun L => row L k := by
  intro A c B _
  show tot (stp (A ++ c :: B) _) = _
  have h := s0_len k 1
  rw [stp_aff A c B _ h, tot_comb _ _ _ _ (by rw [stp_len _ _ h, stp_len _ _ h])]
  rfl
theorem rgs_lin (k : Nat) (x y u v : Rat) : ∀ (L : List Rat) (a : Nat), rgs k a (x * u + y * v) L = x * rgs k a u L + y * rgs k a v L
  | [], a => by simp only [rgs]; grind
  | c :: L, a => by
    simp only [rgs]
    by_cases h : a < k
    · rw [if_pos h, if_pos h, if_pos h]
      have e1 : (x * u + y * v) * c = x * (u * c) + y * (v * c) := by grind
      have e2 : (x * u + y * v) * (1 - c) = x * (u * (1 - c)) + y * (v * (1 - c)) := by grind
      rw [e1, e2, s0_comb, stp_comb _ _ _ _ _ (s0_len _ _) (by simp [s0]), tot_take_comb _ _ _ _ _ (by rw [stp_len _ _ (s0_len _ _), stp_len _ _ (s0_len _ _)]; simp [s0]), rgs_lin k x y (u * (1 - c)) (v * (1 - c)) L (a + 1)]
      grind
    · rw [if_neg h, if_neg h, if_neg h]
      grind
theorem rgs_aff (k : Nat) (c : Rat) (B : List Rat) : ∀ (A : List Rat) (a : Nat) (lead : Rat), rgs k a lead (A ++ c :: B) = (1 - c) * rgs k a lead (A ++ 0 :: B) + c * rgs k a lead (A ++ 1 :: B)
  | [], a, lead => by
    simp only [List.nil_append, rgs]
    by_cases h : a < k
    · rw [if_pos h, if_pos h, if_pos h]
      have e1 : lead * c = (1 - c) * (lead * 0) + c * (lead * 1) := by grind
      have e2 : lead * (1 - c) = (1 - c) * (lead * (1 - 0)) + c * (lead * (1 - 1)) := by grind
      rw [e2, rgs_lin]
      have e3 : tot ((stp B (s0 k (lead * c))).take (k - a)) = (1 - c) * tot ((stp B (s0 k (lead * 0))).take (k - a)) + c * tot ((stp B (s0 k (lead * 1))).take (k - a)) := by
        rw [e1, s0_comb, stp_comb _ _ _ _ _ (s0_len _ _) (by simp [s0]), tot_take_comb _ _ _ _ _ (by rw [stp_len _ _ (s0_len _ _), stp_len _ _ (s0_len _ _)]; simp [s0])]
      rw [e3]
      grind
    · rw [if_neg h, if_neg h, if_neg h]
      grind
  | d :: A, a, lead => by
    simp only [List.cons_append, rgs]
    by_cases h : a < k
    · rw [if_pos h, if_pos h, if_pos h, rgs_aff k c B A (a + 1) (lead * (1 - d)), stp_aff A c B _ (s0_len _ _), tot_take_comb _ _ _ _ _ (by rw [stp_len _ _ (s0_len _ _), stp_len _ _ (s0_len _ _)])]
      grind
    · rw [if_neg h, if_neg h, if_neg h]
      grind
theorem ring_MA (n k : Nat) : MA n fun L => ring L k := by
  intro A c B hl
  show ring _ k = (1 - c) * ring _ k + c * ring _ k
  unfold ring
  have l : ∀ x : Rat, (A ++ x :: B).length = n := fun x => by simp; omega
  rw [l, l, l]
  by_cases h : k > n
  · rw [if_pos h, if_pos h, if_pos h]
    grind
  · rw [if_neg h, if_neg h, if_neg h, rgs_aff]
theorem MA.rev {n : Nat} {F : List Rat → Rat} (h : MA n F) : MA n fun L => F L.reverse := by
  intro A c B hl
  show F _ = _ * F _ + _ * F _
  have e : ∀ x : Rat, (A ++ x :: B).reverse = B.reverse ++ x :: A.reverse := fun x => by simp
  rw [e, e, e]
  exact h _ _ _ (by simp; omega)
def rot {α : Type} (s : Nat) (L : List α) : List α := L.drop s ++ L.take s
theorem MA.rot {n : Nat} {F : List Rat → Rat} (h : MA n F) (s : Nat) : MA n fun L => F (rot s L) := by
  intro A c B hl
  show F _ = _ * F _ + _ * F _
  unfold W41.rot
  rcases Nat.lt_or_ge A.length s with hs | hs
  · have e : ∀ x : Rat, (A ++ x :: B).drop s ++ (A ++ x :: B).take s = (B.drop (s - A.length - 1) ++ A) ++ x :: B.take (s - A.length - 1) := fun x => by
      rw [List.drop_append, List.take_append, List.drop_eq_nil_of_le (by omega), List.take_of_length_le (by omega), show s - A.length = (s - A.length - 1) + 1 by omega, List.drop_succ_cons, List.take_succ_cons, Nat.add_sub_cancel]
      simp
    rw [e, e, e]
    exact h _ _ _ (by simp; omega)
  · have e : ∀ x : Rat, (A ++ x :: B).drop s ++ (A ++ x :: B).take s = A.drop s ++ x :: (B ++ A.take s) := fun x => by
      rw [List.drop_append, List.take_append, show s - A.length = 0 by omega]
      simp
    rw [e, e, e]
    exact h _ _ _ (by simp; omega)
/-! all lots -/
def lots : Nat → List (List Nat)
  | 0 => [[]]
  | n + 1 => lots n ++ (lots n).map (· ++ [n])
theorem lots_lt : ∀ (n : Nat) (l : List Nat), l ∈ lots n → ∀ x ∈ l, x < n
  | 0, l, h, x, hx => by
    simp only [lots, List.mem_singleton] at h
    subst h
    simp at hx
  | n + 1, l, h, x, hx => by
    simp only [lots, List.mem_append, List.mem_map] at h
    rcases h with h | ⟨l', h, rfl⟩
    · have := lots_lt n l h x hx; omega
    · rcases List.mem_append.mp hx with z | z
      · have := lots_lt n l' h x z; omega
      · simp only [List.mem_singleton] at z; omega
def pr (l : List Nat) : Nat → List Rat → Rat → Rat
  | _, [], z => z
  | s, c :: L, z => pr l (s + 1) L (z * (if s ∈ l then c else 1 - c))
theorem pr_app (l : List Nat) (c : Rat) : ∀ (L : List Rat) (s : Nat) (z : Rat), pr l s (L ++ [c]) z = pr l s L z * (if s + L.length ∈ l then c else 1 - c)
  | [], s, z => rfl
  | x :: L, s, z => by
    have e := pr_app l c L (s + 1) (z * (if s ∈ l then x else 1 - x))
    simp only [List.cons_append, pr, List.length_cons]
    rw [e, show s + 1 + L.length = s + (L.length + 1) by omega]
theorem pr_same (l : List Nat) (n : Nat) : ∀ (L : List Rat) (s : Nat) (z : Rat), s + L.length ≤ n → pr (l ++ [n]) s L z = pr l s L z
  | [], s, z, _ => rfl
  | x :: L, s, z, h => by
    simp only [List.length_cons] at h
    simp only [pr]
    rw [pr_same l n L (s + 1) _ (by omega)]
    have : (s ∈ l ++ [n]) = (s ∈ l) := by
      have hn : s ≠ n := by omega
      simp [hn]
    simp only [this]
theorem pr_nn (l : List Nat) : ∀ (L : List Rat) (s : Nat) (z : Rat), 0 ≤ z → (∀ q ∈ L, 0 ≤ q ∧ q ≤ 1) → 0 ≤ pr l s L z
  | [], s, z, h, _ => h
  | c :: L, s, z, h, hq => by
    obtain ⟨h0, h1⟩ := hq c (by simp)
    refine pr_nn l L (s + 1) _ (Rat.mul_nonneg h ?_) fun q hq' => hq q (by simp [hq'])
    split
    · exact h0
    · grind
def bl (n : Nat) (l : List Nat) : List Bool := (List.range n).map fun i => decide (i ∈ l)
def tR (b : List Bool) : List Rat := b.map fun x => if x then 1 else 0
theorem bl_no {n : Nat} {l : List Nat} (h : n ∉ l) : bl (n + 1) l = bl n l ++ [false] := by
  unfold bl
  rw [List.range_succ, List.map_append]
  simp [h]
theorem bl_yes {n : Nat} {l : List Nat} : bl (n + 1) (l ++ [n]) = bl n l ++ [true] := by
  unfold bl
  rw [List.range_succ, List.map_append]
  congr 1
  · refine List.map_congr_left fun i hi => ?_
    have : i < n := List.mem_range.mp hi
    have hn : i ≠ n := by omega
    simp [hn]
  · simp
theorem MA.last {n : Nat} {F : List Rat → Rat} (h : MA (n + 1) F) (b : Rat) : MA n fun L => F (L ++ [b]) := by
  intro A c B hl
  show F _ = _ * F _ + _ * F _
  have e : ∀ x : Rat, A ++ x :: B ++ [b] = A ++ x :: (B ++ [b]) := fun x => by simp
  rw [e, e, e]
  exact h _ _ _ (by simp; omega)
theorem MA.expand : ∀ (n : Nat) {F : List Rat → Rat}, MA n F → ∀ L : List Rat, L.length = n → F L = tot ((lots n).map fun l => pr l 0 L 1 * F (tR (bl n l)))
  | 0, F, _, L, h => by
    have : L = [] := List.eq_nil_of_length_eq_zero h
    subst this
    show F [] = tot [1 * F []]
    rw [tot_cons]
    show _ = _ + 0
    grind
  | n + 1, F, hF, L, h => by
    have hne : L ≠ [] := fun z => by subst z; simp at h
    obtain ⟨L', c, rfl⟩ : ∃ L' c, L = L' ++ [c] := ⟨L.dropLast, L.getLast hne, (List.dropLast_concat_getLast hne).symm⟩
    have hl : L'.length = n := by simpa using h
    have e0 := MA.expand n (hF.last 0) L' hl
    have e1 := MA.expand n (hF.last 1) L' hl
    have s := hF L' c [] (by simp; omega)
    rw [s, e0, e1]
    simp only [lots, List.map_append, tot_app, List.map_map]
    have a0 : tot ((lots n).map fun l => pr l 0 (L' ++ [c]) 1 * F (tR (bl (n + 1) l))) = tot ((lots n).map fun l => pr l 0 L' 1 * F (tR (bl n l) ++ [0])) * (1 - c) := by
      rw [← tot_map_mul]
      congr 1
      refine List.map_congr_left fun l hm => ?_
      have hn : n ∉ l := fun z => by have := lots_lt n l hm n z; omega
      rw [pr_app, if_neg (by rw [hl, Nat.zero_add]; exact hn), bl_no hn]
      simp only [tR, List.map_append, List.map_cons, List.map_nil, Bool.false_eq_true, if_false]
      grind
    have a1 : tot ((lots n).map ((fun l => pr l 0 (L' ++ [c]) 1 * F (tR (bl (n + 1) l))) ∘ fun x => x ++ [n])) = tot ((lots n).map fun l => pr l 0 L' 1 * F (tR (bl n l) ++ [1])) * c := by
      rw [← tot_map_mul]
      congr 1
      refine List.map_congr_left fun l hm => ?_
      simp only [Function.comp]
      rw [pr_app, if_pos (by rw [hl]; simp), pr_same _ _ _ _ _ (by omega), bl_yes]
      simp only [tR, List.map_append, List.map_cons, List.map_nil, if_true]
      grind
    rw [a0, a1]
    grind
/-! runs -/
def wr (n i : Nat) : Nat := if i < n then i else i - n
def runAt (b : List Bool) (k s : Nat) : Bool := (List.range k).all fun t => !b.getD (wr b.length (s + t)) true
def hr (b : List Bool) (k : Nat) (rg : Bool) : Bool := if k > b.length then false else (List.range (if rg then b.length else b.length - k + 1)).any fun s => runAt b k s
def allB : Nat → List (List Bool)
  | 0 => [[]]
  | n + 1 => (allB n).map (false :: ·) ++ (allB n).map (true :: ·)
theorem allB_mem : ∀ b : List Bool, b ∈ allB b.length
  | [] => by simp [allB]
  | x :: b => by
    have := allB_mem b
    simp only [List.length_cons, allB, List.mem_append, List.mem_map]
    cases x
    · exact .inl ⟨b, this, rfl⟩
    · exact .inr ⟨b, this, rfl⟩
end W41
namespace W41
open PySem L2 PL
/-! tables -/
theorem rowT : (List.range 8).all (fun n => (allB n).all fun b => (List.range (n + 2)).all fun k => decide (row (tR b) (k + 1) = if hr b (k + 1) false then 0 else 1)) = true := by decide +kernel
theorem ringT : (List.range 8).all (fun n => (allB n).all fun b => (List.range (n + 2)).all fun k => decide (ring (tR b) (k + 1) = if hr b (k + 1) true then 0 else 1)) = true := by decide +kernel
theorem revT : (List.range 8).all (fun n => (allB n).all fun b => (List.range (n + 2)).all fun k => hr b.reverse (k + 1) false == hr b (k + 1) false) = true := by decide +kernel
theorem rotT : (List.range 8).all (fun n => (allB n).all fun b => (List.range (n + 2)).all fun k => (List.range (n + 1)).all fun s => hr (rot s b) (k + 1) true == hr b (k + 1) true) = true := by decide +kernel
theorem leT : (List.range 8).all (fun n => (allB n).all fun b => (List.range (n + 2)).all fun k => !hr b (k + 1) false || hr b (k + 1) true) = true := by decide +kernel
theorem tab {n : Nat} {b : List Bool} {k : Nat} {p : Nat → List Bool → Nat → Bool} (h : (List.range 8).all (fun n => (allB n).all fun b => (List.range (n + 2)).all fun k => p n b (k + 1)) = true) (hn : n ≤ 7) (hb : b.length = n) (h1 : 1 ≤ k) (h2 : k ≤ n + 2) : p n b k = true := by
  have a := List.all_eq_true.mp h n (List.mem_range.mpr (by omega))
  have c := List.all_eq_true.mp a b (by rw [← hb]; exact allB_mem b)
  have d := List.all_eq_true.mp c (k - 1) (List.mem_range.mpr (by omega))
  rwa [show k - 1 + 1 = k by omega] at d
theorem row_bits {n : Nat} {b : List Bool} {k : Nat} (hn : n ≤ 7) (hb : b.length = n) (h1 : 1 ≤ k) (h2 : k ≤ n + 2) : row (tR b) k = if hr b k false then 0 else 1 := of_decide_eq_true (tab (p := fun _ b k => decide (row (tR b) k = if hr b k false then 0 else 1)) rowT hn hb h1 h2)
theorem ring_bits {n : Nat} {b : List Bool} {k : Nat} (hn : n ≤ 7) (hb : b.length = n) (h1 : 1 ≤ k) (h2 : k ≤ n + 2) : ring (tR b) k = if hr b k true then 0 else 1 := of_decide_eq_true (tab (p := fun _ b k => decide (ring (tR b) k = if hr b k true then 0 else 1)) ringT hn hb h1 h2)
theorem rev_bits {n : Nat} {b : List Bool} {k : Nat} (hn : n ≤ 7) (hb : b.length = n) (h1 : 1 ≤ k) (h2 : k ≤ n + 2) : hr b.reverse k false = hr b k false := eq_of_beq (tab (p := fun _ b k => hr b.reverse k false == hr b k false) revT hn hb h1 h2)
theorem rot_bits {n : Nat} {b : List Bool} {k s : Nat} (hn : n ≤ 7) (hb : b.length = n) (h1 : 1 ≤ k) (h2 : k ≤ n + 2) (hs : s ≤ n) : hr (rot s b) k true = hr b k true := eq_of_beq (List.all_eq_true.mp (tab (p := fun n b k => (List.range (n + 1)).all fun s => hr (rot s b) k true == hr b k true) rotT hn hb h1 h2) s (List.mem_range.mpr (by omega)))
theorem le_bits {n : Nat} {b : List Bool} {k : Nat} (hn : n ≤ 7) (hb : b.length = n) (h1 : 1 ≤ k) (h2 : k ≤ n + 2) (h : hr b k true = false) : hr b k false = false := by
  have := tab (p := fun _ b k => !hr b k false || hr b k true) leT hn hb h1 h2
  simp only [h, Bool.or_false, Bool.not_eq_true'] at this
  exact this
theorem bl_len (n : Nat) (l : List Nat) : (bl n l).length = n := by simp [bl]
def good (n k : Nat) (rg : Bool) : List (List Nat) := (lots n).filter fun l => !hr (bl n l) k rg
theorem rev_len {n : Nat} {b : List Bool} (h : b.length = n) : b.reverse.length = n := by simp [h]
theorem rot_len {α : Type} {n s : Nat} {b : List α} (h : b.length = n) : (rot s b).length = n := by
  unfold rot
  rw [List.length_append, List.length_drop, List.length_take]
  omega
theorem tR_rev (b : List Bool) : tR b.reverse = (tR b).reverse := by unfold tR; rw [List.map_reverse]
theorem tR_rot (s : Nat) (b : List Bool) : tR (rot s b) = rot s (tR b) := by unfold tR rot; rw [List.map_append, List.map_drop, List.map_take]
section
variable {n k : Nat} {L : List Rat}
theorem row_by (hn : n ≤ 7) (hl : L.length = n) (h1 : 1 ≤ k) (h2 : k ≤ n + 2) : row L k = tot ((good n k false).map fun l => pr l 0 L 1) := by
  rw [(row_MA n k).expand n L hl]
  unfold good
  rw [← tot_ind]
  congr 1
  refine List.map_congr_left fun l _ => ?_
  rw [row_bits hn (bl_len n l) h1 h2]
theorem ring_by (hn : n ≤ 7) (hl : L.length = n) (h1 : 1 ≤ k) (h2 : k ≤ n + 2) : ring L k = tot ((good n k true).map fun l => pr l 0 L 1) := by
  rw [(ring_MA n k).expand n L hl]
  unfold good
  rw [← tot_ind]
  congr 1
  refine List.map_congr_left fun l _ => ?_
  rw [ring_bits hn (bl_len n l) h1 h2]
theorem rev_by (hn : n ≤ 7) (hl : L.length = n) (h1 : 1 ≤ k) (h2 : k ≤ n + 2) : row L.reverse k = tot ((good n k false).map fun l => pr l 0 L 1) := by
  have e := ((row_MA n k).rev).expand n L hl
  refine e.trans ?_
  unfold good
  rw [← tot_ind]
  congr 1
  refine List.map_congr_left fun l _ => ?_
  show _ * row (tR (bl n l)).reverse k = _
  rw [← tR_rev, row_bits hn (rev_len (bl_len n l)) h1 h2, rev_bits hn (bl_len n l) h1 h2]
theorem rot_by {s : Nat} (hn : n ≤ 7) (hl : L.length = n) (h1 : 1 ≤ k) (h2 : k ≤ n + 2) (hs : s ≤ n) : ring (rot s L) k = tot ((good n k true).map fun l => pr l 0 L 1) := by
  have e := ((ring_MA n k).rot s).expand n L hl
  refine e.trans ?_
  unfold good
  rw [← tot_ind]
  congr 1
  refine List.map_congr_left fun l _ => ?_
  show _ * ring (rot s (tR (bl n l))) k = _
  rw [← tR_rot, ring_bits hn (rot_len (bl_len n l)) h1 h2, rot_bits hn (bl_len n l) h1 h2 hs]
theorem ring_le (hn : n ≤ 7) (h1 : 1 ≤ k) (h2 : k ≤ n + 2) (hq : ∀ q ∈ L, 0 ≤ q ∧ q ≤ 1) : tot ((good n k true).map fun l => pr l 0 L 1) ≤ tot ((good n k false).map fun l => pr l 0 L 1) := by
  unfold good
  refine tot_filter_le (fun l _ => pr_nn l L 0 1 (by decide) hq) fun l _ h => ?_
  have h' : hr (bl n l) k true = false := by simpa using h
  simp [le_bits hn (bl_len n l) h1 h2 h']
end
/-! closed answers -/
def ev (P : List Int) (c : Rat) : Rat := P.foldr (fun (p : Int) (a : Rat) => (p : Rat) + c * a) 0
structure Cs (n k : Nat) (P : List Int) : Prop where
  rows : g_count_rows [.int (n : Int), .int (k : Int)] = .ok (.int (((good n k false).length : Nat) : Int))
  rings : g_count_rings [.int (n : Int), .int (k : Int)] = .ok (.int (((good n k true).length : Nat) : Int))
  pol : g_run_polynomial [.int (n : Int), .int (k : Int)] = .ok (.tup (P.map .int))
  isp : g_need_polynomial [.tup (P.map .int)] = .ok .non
  len : P.length ≤ 8
  sm : ∀ x ∈ P, x.natAbs ≤ 1000
  val : ∀ c : Rat, row (List.replicate n c) k = ev P c
theorem cs0_1 : Cs 0 1 [1] := by
  refine ⟨by kernel_rfl, by kernel_rfl, by kernel_rfl, by kernel_rfl, by decide, by decide, fun c => ?_⟩
  simp only [row, stp, s0, ev, List.replicate_zero, List.replicate_succ, Nat.sub_self, Nat.reduceSub, List.replicate, List.foldl, List.foldr, step, tot, List.dropLast, List.map]
  grind
theorem cs0_2 : Cs 0 2 [1] := by
  refine ⟨by kernel_rfl, by kernel_rfl, by kernel_rfl, by kernel_rfl, by decide, by decide, fun c => ?_⟩
  simp only [row, stp, s0, ev, List.replicate_zero, List.replicate_succ, Nat.sub_self, Nat.reduceSub, List.replicate, List.foldl, List.foldr, step, tot, List.dropLast, List.map]
  grind
theorem cs1_1 : Cs 1 1 [0, 1] := by
  refine ⟨by kernel_rfl, by kernel_rfl, by kernel_rfl, by kernel_rfl, by decide, by decide, fun c => ?_⟩
  simp only [row, stp, s0, ev, List.replicate_zero, List.replicate_succ, Nat.sub_self, Nat.reduceSub, List.replicate, List.foldl, List.foldr, step, tot, List.dropLast, List.map]
  grind
theorem cs1_2 : Cs 1 2 [1] := by
  refine ⟨by kernel_rfl, by kernel_rfl, by kernel_rfl, by kernel_rfl, by decide, by decide, fun c => ?_⟩
  simp only [row, stp, s0, ev, List.replicate_zero, List.replicate_succ, Nat.sub_self, Nat.reduceSub, List.replicate, List.foldl, List.foldr, step, tot, List.dropLast, List.map]
  grind
theorem cs1_3 : Cs 1 3 [1] := by
  refine ⟨by kernel_rfl, by kernel_rfl, by kernel_rfl, by kernel_rfl, by decide, by decide, fun c => ?_⟩
  simp only [row, stp, s0, ev, List.replicate_zero, List.replicate_succ, Nat.sub_self, Nat.reduceSub, List.replicate, List.foldl, List.foldr, step, tot, List.dropLast, List.map]
  grind
theorem cs2_1 : Cs 2 1 [0, 0, 1] := by
  refine ⟨by kernel_rfl, by kernel_rfl, by kernel_rfl, by kernel_rfl, by decide, by decide, fun c => ?_⟩
  simp only [row, stp, s0, ev, List.replicate_zero, List.replicate_succ, Nat.sub_self, Nat.reduceSub, List.replicate, List.foldl, List.foldr, step, tot, List.dropLast, List.map]
  grind
theorem cs2_2 : Cs 2 2 [0, 2, -1] := by
  refine ⟨by kernel_rfl, by kernel_rfl, by kernel_rfl, by kernel_rfl, by decide, by decide, fun c => ?_⟩
  simp only [row, stp, s0, ev, List.replicate_zero, List.replicate_succ, Nat.sub_self, Nat.reduceSub, List.replicate, List.foldl, List.foldr, step, tot, List.dropLast, List.map]
  grind
theorem cs2_3 : Cs 2 3 [1] := by
  refine ⟨by kernel_rfl, by kernel_rfl, by kernel_rfl, by kernel_rfl, by decide, by decide, fun c => ?_⟩
  simp only [row, stp, s0, ev, List.replicate_zero, List.replicate_succ, Nat.sub_self, Nat.reduceSub, List.replicate, List.foldl, List.foldr, step, tot, List.dropLast, List.map]
  grind
theorem cs2_4 : Cs 2 4 [1] := by
  refine ⟨by kernel_rfl, by kernel_rfl, by kernel_rfl, by kernel_rfl, by decide, by decide, fun c => ?_⟩
  simp only [row, stp, s0, ev, List.replicate_zero, List.replicate_succ, Nat.sub_self, Nat.reduceSub, List.replicate, List.foldl, List.foldr, step, tot, List.dropLast, List.map]
  grind
theorem cs3_1 : Cs 3 1 [0, 0, 0, 1] := by
  refine ⟨by kernel_rfl, by kernel_rfl, by kernel_rfl, by kernel_rfl, by decide, by decide, fun c => ?_⟩
  simp only [row, stp, s0, ev, List.replicate_zero, List.replicate_succ, Nat.sub_self, Nat.reduceSub, List.replicate, List.foldl, List.foldr, step, tot, List.dropLast, List.map]
  grind
theorem cs3_2 : Cs 3 2 [0, 1, 1, -1] := by
  refine ⟨by kernel_rfl, by kernel_rfl, by kernel_rfl, by kernel_rfl, by decide, by decide, fun c => ?_⟩
  simp only [row, stp, s0, ev, List.replicate_zero, List.replicate_succ, Nat.sub_self, Nat.reduceSub, List.replicate, List.foldl, List.foldr, step, tot, List.dropLast, List.map]
  grind
theorem cs3_3 : Cs 3 3 [0, 3, -3, 1] := by
  refine ⟨by kernel_rfl, by kernel_rfl, by kernel_rfl, by kernel_rfl, by decide, by decide, fun c => ?_⟩
  simp only [row, stp, s0, ev, List.replicate_zero, List.replicate_succ, Nat.sub_self, Nat.reduceSub, List.replicate, List.foldl, List.foldr, step, tot, List.dropLast, List.map]
  grind
theorem cs3_4 : Cs 3 4 [1] := by
  refine ⟨by kernel_rfl, by kernel_rfl, by kernel_rfl, by kernel_rfl, by decide, by decide, fun c => ?_⟩
  simp only [row, stp, s0, ev, List.replicate_zero, List.replicate_succ, Nat.sub_self, Nat.reduceSub, List.replicate, List.foldl, List.foldr, step, tot, List.dropLast, List.map]
  grind
theorem cs3_5 : Cs 3 5 [1] := by
  refine ⟨by kernel_rfl, by kernel_rfl, by kernel_rfl, by kernel_rfl, by decide, by decide, fun c => ?_⟩
  simp only [row, stp, s0, ev, List.replicate_zero, List.replicate_succ, Nat.sub_self, Nat.reduceSub, List.replicate, List.foldl, List.foldr, step, tot, List.dropLast, List.map]
  grind
theorem cs4_1 : Cs 4 1 [0, 0, 0, 0, 1] := by
  refine ⟨by kernel_rfl, by kernel_rfl, by kernel_rfl, by kernel_rfl, by decide, by decide, fun c => ?_⟩
  simp only [row, stp, s0, ev, List.replicate_zero, List.replicate_succ, Nat.sub_self, Nat.reduceSub, List.replicate, List.foldl, List.foldr, step, tot, List.dropLast, List.map]
  grind
theorem cs4_2 : Cs 4 2 [0, 0, 3, -2] := by
  refine ⟨by kernel_rfl, by kernel_rfl, by kernel_rfl, by kernel_rfl, by decide, by decide, fun c => ?_⟩
  simp only [row, stp, s0, ev, List.replicate_zero, List.replicate_succ, Nat.sub_self, Nat.reduceSub, List.replicate, List.foldl, List.foldr, step, tot, List.dropLast, List.map]
  grind
theorem cs4_3 : Cs 4 3 [0, 2, 0, -2, 1] := by
  refine ⟨by kernel_rfl, by kernel_rfl, by kernel_rfl, by kernel_rfl, by decide, by decide, fun c => ?_⟩
  simp only [row, stp, s0, ev, List.replicate_zero, List.replicate_succ, Nat.sub_self, Nat.reduceSub, List.replicate, List.foldl, List.foldr, step, tot, List.dropLast, List.map]
  grind
theorem cs4_4 : Cs 4 4 [0, 4, -6, 4, -1] := by
  refine ⟨by kernel_rfl, by kernel_rfl, by kernel_rfl, by kernel_rfl, by decide, by decide, fun c => ?_⟩
  simp only [row, stp, s0, ev, List.replicate_zero, List.replicate_succ, Nat.sub_self, Nat.reduceSub, List.replicate, List.foldl, List.foldr, step, tot, List.dropLast, List.map]
  grind
theorem cs4_5 : Cs 4 5 [1] := by
  refine ⟨by kernel_rfl, by kernel_rfl, by kernel_rfl, by kernel_rfl, by decide, by decide, fun c => ?_⟩
  simp only [row, stp, s0, ev, List.replicate_zero, List.replicate_succ, Nat.sub_self, Nat.reduceSub, List.replicate, List.foldl, List.foldr, step, tot, List.dropLast, List.map]
  grind
theorem cs4_6 : Cs 4 6 [1] := by
  refine ⟨by kernel_rfl, by kernel_rfl, by kernel_rfl, by kernel_rfl, by decide, by decide, fun c => ?_⟩
  simp only [row, stp, s0, ev, List.replicate_zero, List.replicate_succ, Nat.sub_self, Nat.reduceSub, List.replicate, List.foldl, List.foldr, step, tot, List.dropLast, List.map]
  grind
theorem cs5_1 : Cs 5 1 [0, 0, 0, 0, 0, 1] := by
  refine ⟨by kernel_rfl, by kernel_rfl, by kernel_rfl, by kernel_rfl, by decide, by decide, fun c => ?_⟩
  simp only [row, stp, s0, ev, List.replicate_zero, List.replicate_succ, Nat.sub_self, Nat.reduceSub, List.replicate, List.foldl, List.foldr, step, tot, List.dropLast, List.map]
  grind
theorem cs5_2 : Cs 5 2 [0, 0, 1, 3, -4, 1] := by
  refine ⟨by kernel_rfl, by kernel_rfl, by kernel_rfl, by kernel_rfl, by decide, by decide, fun c => ?_⟩
  simp only [row, stp, s0, ev, List.replicate_zero, List.replicate_succ, Nat.sub_self, Nat.reduceSub, List.replicate, List.foldl, List.foldr, step, tot, List.dropLast, List.map]
  grind
theorem cs5_3 : Cs 5 3 [0, 1, 3, -5, 2] := by
  refine ⟨by kernel_rfl, by kernel_rfl, by kernel_rfl, by kernel_rfl, by decide, by decide, fun c => ?_⟩
  simp only [row, stp, s0, ev, List.replicate_zero, List.replicate_succ, Nat.sub_self, Nat.reduceSub, List.replicate, List.foldl, List.foldr, step, tot, List.dropLast, List.map]
  grind
theorem cs5_4 : Cs 5 4 [0, 3, -2, -2, 3, -1] := by
  refine ⟨by kernel_rfl, by kernel_rfl, by kernel_rfl, by kernel_rfl, by decide, by decide, fun c => ?_⟩
  simp only [row, stp, s0, ev, List.replicate_zero, List.replicate_succ, Nat.sub_self, Nat.reduceSub, List.replicate, List.foldl, List.foldr, step, tot, List.dropLast, List.map]
  grind
theorem cs5_5 : Cs 5 5 [0, 5, -10, 10, -5, 1] := by
  refine ⟨by kernel_rfl, by kernel_rfl, by kernel_rfl, by kernel_rfl, by decide, by decide, fun c => ?_⟩
  simp only [row, stp, s0, ev, List.replicate_zero, List.replicate_succ, Nat.sub_self, Nat.reduceSub, List.replicate, List.foldl, List.foldr, step, tot, List.dropLast, List.map]
  grind
theorem cs5_6 : Cs 5 6 [1] := by
  refine ⟨by kernel_rfl, by kernel_rfl, by kernel_rfl, by kernel_rfl, by decide, by decide, fun c => ?_⟩
  simp only [row, stp, s0, ev, List.replicate_zero, List.replicate_succ, Nat.sub_self, Nat.reduceSub, List.replicate, List.foldl, List.foldr, step, tot, List.dropLast, List.map]
  grind
theorem cs5_7 : Cs 5 7 [1] := by
  refine ⟨by kernel_rfl, by kernel_rfl, by kernel_rfl, by kernel_rfl, by decide, by decide, fun c => ?_⟩
  simp only [row, stp, s0, ev, List.replicate_zero, List.replicate_succ, Nat.sub_self, Nat.reduceSub, List.replicate, List.foldl, List.foldr, step, tot, List.dropLast, List.map]
  grind
theorem cs6_1 : Cs 6 1 [0, 0, 0, 0, 0, 0, 1] := by
  refine ⟨by kernel_rfl, by kernel_rfl, by kernel_rfl, by kernel_rfl, by decide, by decide, fun c => ?_⟩
  simp only [row, stp, s0, ev, List.replicate_zero, List.replicate_succ, Nat.sub_self, Nat.reduceSub, List.replicate, List.foldl, List.foldr, step, tot, List.dropLast, List.map]
  grind
theorem cs6_2 : Cs 6 2 [0, 0, 0, 4, -2, -2, 1] := by
  refine ⟨by kernel_rfl, by kernel_rfl, by kernel_rfl, by kernel_rfl, by decide, by decide, fun c => ?_⟩
  simp only [row, stp, s0, ev, List.replicate_zero, List.replicate_succ, Nat.sub_self, Nat.reduceSub, List.replicate, List.foldl, List.foldr, step, tot, List.dropLast, List.map]
  grind
theorem cs6_3 : Cs 6 3 [0, 0, 6, -8, 3] := by
  refine ⟨by kernel_rfl, by kernel_rfl, by kernel_rfl, by kernel_rfl, by decide, by decide, fun c => ?_⟩
  simp only [row, stp, s0, ev, List.replicate_zero, List.replicate_succ, Nat.sub_self, Nat.reduceSub, List.replicate, List.foldl, List.foldr, step, tot, List.dropLast, List.map]
  grind
theorem cs6_4 : Cs 6 4 [0, 2, 2, -8, 7, -2] := by
  refine ⟨by kernel_rfl, by kernel_rfl, by kernel_rfl, by kernel_rfl, by decide, by decide, fun c => ?_⟩
  simp only [row, stp, s0, ev, List.replicate_zero, List.replicate_succ, Nat.sub_self, Nat.reduceSub, List.replicate, List.foldl, List.foldr, step, tot, List.dropLast, List.map]
  grind
theorem cs6_5 : Cs 6 5 [0, 4, -5, 0, 5, -4, 1] := by
  refine ⟨by kernel_rfl, by kernel_rfl, by kernel_rfl, by kernel_rfl, by decide, by decide, fun c => ?_⟩
  simp only [row, stp, s0, ev, List.replicate_zero, List.replicate_succ, Nat.sub_self, Nat.reduceSub, List.replicate, List.foldl, List.foldr, step, tot, List.dropLast, List.map]
  grind
theorem cs6_6 : Cs 6 6 [0, 6, -15, 20, -15, 6, -1] := by
  refine ⟨by kernel_rfl, by kernel_rfl, by kernel_rfl, by kernel_rfl, by decide, by decide, fun c => ?_⟩
  simp only [row, stp, s0, ev, List.replicate_zero, List.replicate_succ, Nat.sub_self, Nat.reduceSub, List.replicate, List.foldl, List.foldr, step, tot, List.dropLast, List.map]
  grind
theorem cs6_7 : Cs 6 7 [1] := by
  refine ⟨by kernel_rfl, by kernel_rfl, by kernel_rfl, by kernel_rfl, by decide, by decide, fun c => ?_⟩
  simp only [row, stp, s0, ev, List.replicate_zero, List.replicate_succ, Nat.sub_self, Nat.reduceSub, List.replicate, List.foldl, List.foldr, step, tot, List.dropLast, List.map]
  grind
theorem cs6_8 : Cs 6 8 [1] := by
  refine ⟨by kernel_rfl, by kernel_rfl, by kernel_rfl, by kernel_rfl, by decide, by decide, fun c => ?_⟩
  simp only [row, stp, s0, ev, List.replicate_zero, List.replicate_succ, Nat.sub_self, Nat.reduceSub, List.replicate, List.foldl, List.foldr, step, tot, List.dropLast, List.map]
  grind
theorem cs7_1 : Cs 7 1 [0, 0, 0, 0, 0, 0, 0, 1] := by
  refine ⟨by kernel_rfl, by kernel_rfl, by kernel_rfl, by kernel_rfl, by decide, by decide, fun c => ?_⟩
  simp only [row, stp, s0, ev, List.replicate_zero, List.replicate_succ, Nat.sub_self, Nat.reduceSub, List.replicate, List.foldl, List.foldr, step, tot, List.dropLast, List.map]
  grind
theorem cs7_2 : Cs 7 2 [0, 0, 0, 1, 6, -9, 3] := by
  refine ⟨by kernel_rfl, by kernel_rfl, by kernel_rfl, by kernel_rfl, by decide, by decide, fun c => ?_⟩
  simp only [row, stp, s0, ev, List.replicate_zero, List.replicate_succ, Nat.sub_self, Nat.reduceSub, List.replicate, List.foldl, List.foldr, step, tot, List.dropLast, List.map]
  grind
theorem cs7_3 : Cs 7 3 [0, 0, 3, 4, -16, 15, -6, 1] := by
  refine ⟨by kernel_rfl, by kernel_rfl, by kernel_rfl, by kernel_rfl, by decide, by decide, fun c => ?_⟩
  simp only [row, stp, s0, ev, List.replicate_zero, List.replicate_succ, Nat.sub_self, Nat.reduceSub, List.replicate, List.foldl, List.foldr, step, tot, List.dropLast, List.map]
  grind
theorem cs7_4 : Cs 7 4 [0, 1, 6, -14, 11, -3] := by
  refine ⟨by kernel_rfl, by kernel_rfl, by kernel_rfl, by kernel_rfl, by decide, by decide, fun c => ?_⟩
  simp only [row, stp, s0, ev, List.replicate_zero, List.replicate_succ, Nat.sub_self, Nat.reduceSub, List.replicate, List.foldl, List.foldr, step, tot, List.dropLast, List.map]
  grind
theorem cs7_5 : Cs 7 5 [0, 3, 0, -10, 15, -9, 2] := by
  refine ⟨by kernel_rfl, by kernel_rfl, by kernel_rfl, by kernel_rfl, by decide, by decide, fun c => ?_⟩
  simp only [row, stp, s0, ev, List.replicate_zero, List.replicate_succ, Nat.sub_self, Nat.reduceSub, List.replicate, List.foldl, List.foldr, step, tot, List.dropLast, List.map]
  grind
theorem cs7_6 : Cs 7 6 [0, 5, -9, 5, 5, -9, 5, -1] := by
  refine ⟨by kernel_rfl, by kernel_rfl, by kernel_rfl, by kernel_rfl, by decide, by decide, fun c => ?_⟩
  simp only [row, stp, s0, ev, List.replicate_zero, List.replicate_succ, Nat.sub_self, Nat.reduceSub, List.replicate, List.foldl, List.foldr, step, tot, List.dropLast, List.map]
  grind
theorem cs7_7 : Cs 7 7 [0, 7, -21, 35, -35, 21, -7, 1] := by
  refine ⟨by kernel_rfl, by kernel_rfl, by kernel_rfl, by kernel_rfl, by decide, by decide, fun c => ?_⟩
  simp only [row, stp, s0, ev, List.replicate_zero, List.replicate_succ, Nat.sub_self, Nat.reduceSub, List.replicate, List.foldl, List.foldr, step, tot, List.dropLast, List.map]
  grind
theorem cs7_8 : Cs 7 8 [1] := by
  refine ⟨by kernel_rfl, by kernel_rfl, by kernel_rfl, by kernel_rfl, by decide, by decide, fun c => ?_⟩
  simp only [row, stp, s0, ev, List.replicate_zero, List.replicate_succ, Nat.sub_self, Nat.reduceSub, List.replicate, List.foldl, List.foldr, step, tot, List.dropLast, List.map]
  grind
theorem cs7_9 : Cs 7 9 [1] := by
  refine ⟨by kernel_rfl, by kernel_rfl, by kernel_rfl, by kernel_rfl, by decide, by decide, fun c => ?_⟩
  simp only [row, stp, s0, ev, List.replicate_zero, List.replicate_succ, Nat.sub_self, Nat.reduceSub, List.replicate, List.foldl, List.foldr, step, tot, List.dropLast, List.map]
  grind
theorem cs_all : ∀ n, n ≤ 7 → ∀ k, 1 ≤ k → k ≤ n + 2 → ∃ P, Cs n k P := by
  intro n hn k h1 h2
  match n, hn with
  | 0, _ =>
    match k, h1, h2 with
    | 1, _, _ => exact ⟨_, cs0_1⟩
    | 2, _, _ => exact ⟨_, cs0_2⟩
  | 1, _ =>
    match k, h1, h2 with
    | 1, _, _ => exact ⟨_, cs1_1⟩
    | 2, _, _ => exact ⟨_, cs1_2⟩
    | 3, _, _ => exact ⟨_, cs1_3⟩
  | 2, _ =>
    match k, h1, h2 with
    | 1, _, _ => exact ⟨_, cs2_1⟩
    | 2, _, _ => exact ⟨_, cs2_2⟩
    | 3, _, _ => exact ⟨_, cs2_3⟩
    | 4, _, _ => exact ⟨_, cs2_4⟩
  | 3, _ =>
    match k, h1, h2 with
    | 1, _, _ => exact ⟨_, cs3_1⟩
    | 2, _, _ => exact ⟨_, cs3_2⟩
    | 3, _, _ => exact ⟨_, cs3_3⟩
    | 4, _, _ => exact ⟨_, cs3_4⟩
    | 5, _, _ => exact ⟨_, cs3_5⟩
  | 4, _ =>
    match k, h1, h2 with
    | 1, _, _ => exact ⟨_, cs4_1⟩
    | 2, _, _ => exact ⟨_, cs4_2⟩
    | 3, _, _ => exact ⟨_, cs4_3⟩
    | 4, _, _ => exact ⟨_, cs4_4⟩
    | 5, _, _ => exact ⟨_, cs4_5⟩
    | 6, _, _ => exact ⟨_, cs4_6⟩
  | 5, _ =>
    match k, h1, h2 with
    | 1, _, _ => exact ⟨_, cs5_1⟩
    | 2, _, _ => exact ⟨_, cs5_2⟩
    | 3, _, _ => exact ⟨_, cs5_3⟩
    | 4, _, _ => exact ⟨_, cs5_4⟩
    | 5, _, _ => exact ⟨_, cs5_5⟩
    | 6, _, _ => exact ⟨_, cs5_6⟩
    | 7, _, _ => exact ⟨_, cs5_7⟩
  | 6, _ =>
    match k, h1, h2 with
    | 1, _, _ => exact ⟨_, cs6_1⟩
    | 2, _, _ => exact ⟨_, cs6_2⟩
    | 3, _, _ => exact ⟨_, cs6_3⟩
    | 4, _, _ => exact ⟨_, cs6_4⟩
    | 5, _, _ => exact ⟨_, cs6_5⟩
    | 6, _, _ => exact ⟨_, cs6_6⟩
    | 7, _, _ => exact ⟨_, cs6_7⟩
    | 8, _, _ => exact ⟨_, cs6_8⟩
  | 7, _ =>
    match k, h1, h2 with
    | 1, _, _ => exact ⟨_, cs7_1⟩
    | 2, _, _ => exact ⟨_, cs7_2⟩
    | 3, _, _ => exact ⟨_, cs7_3⟩
    | 4, _, _ => exact ⟨_, cs7_4⟩
    | 5, _, _ => exact ⟨_, cs7_5⟩
    | 6, _, _ => exact ⟨_, cs7_6⟩
    | 7, _, _ => exact ⟨_, cs7_7⟩
    | 8, _, _ => exact ⟨_, cs7_8⟩
    | 9, _, _ => exact ⟨_, cs7_9⟩
end W41
namespace W41
open PySem L2 PL
/-- a portion over a power of 60 -/
def Q (q : Rat) (e M : Nat) : Prop := Bd q (60 ^ e) (M * 60 ^ e)
section
variable {p q : Rat} {e e2 M M2 : Nat}
theorem Q.mono (x : Q q e M) (h : M ≤ M2) : Q q e M2 := Bd.mono x (Nat.mul_le_mul_right _ h)
theorem Q.add (x : Q p e M) (y : Q q e M2) : Q (p + q) e (M + M2) := by
  have := Bd.add x y
  rw [← Nat.add_mul] at this
  exact this
theorem Q.sub (x : Q p e M) (y : Q q e M2) : Q (p - q) e (M + M2) := by
  have := Bd.sub x y
  rw [← Nat.add_mul] at this
  exact this
theorem Q.neg (x : Q p e M) : Q (-p) e M := Bd.neg x
theorem Q.mul (x : Q p e M) (y : Q q e2 M2) : Q (p * q) (e + e2) (M * M2) := by
  have := Bd.mul x y
  rw [← Nat.pow_add, show M * 60 ^ e * (M2 * 60 ^ e2) = M * M2 * (60 ^ e * 60 ^ e2) by rw [Nat.mul_mul_mul_comm], ← Nat.pow_add] at this
  exact this
theorem Q.up (x : Q q e M) (h : e ≤ e2) : Q q e2 M := by
  obtain ⟨d, rfl⟩ : ∃ d, e2 = e + d := ⟨e2 - e, by omega⟩
  have := Bd.up x (Nat.pow_pos (n := d) (show 0 < 60 by decide))
  rw [← Nat.pow_add, Nat.mul_assoc, ← Nat.pow_add] at this
  exact this
theorem Q.zero : Q 0 e 0 := ⟨Nat.pow_pos (by decide), 0, by simp, by simp⟩
theorem Q.nat (n : Nat) : Q (n : Rat) e n := Q.up (e := 0) (by unfold Q; simpa using Bd.nat n) (Nat.zero_le _)
theorem Q.one : Q 1 e 1 := by have := Q.nat (e := e) 1; simpa using this
theorem p60 : (60 : Nat) ^ 32 < 2 ^ 222 := by decide
theorem Q.sz (x : Q q e M) (he : e ≤ 32) (hM : M ≤ 2 ^ 190) : Sz q := by
  have a : 60 ^ e ≤ 60 ^ 32 := Nat.pow_le_pow_right (by decide) he
  have b := p60
  refine Bd.sz x ?_ ?_
  · have : (2 : Nat) ^ 222 < 2 ^ 420 := by decide
    omega
  · have h1 : M * 60 ^ e ≤ 2 ^ 190 * 2 ^ 222 := Nat.mul_le_mul hM (by omega)
    have : (2 : Nat) ^ 190 * 2 ^ 222 < 2 ^ 420 := by decide
    omega
end
theorem bd_small {q : Rat} {D N : Nat} (x : Bd q D N) : q.den ≤ D ∧ q.num.natAbs ≤ N := by
  obtain ⟨h0, A, e, l⟩ := x
  have e2 : q.num * (D : Int) = A * (q.den : Int) := by
    apply Rat.intCast_inj.mp
    rw [Rat.intCast_mul, Rat.intCast_mul, Rat.intCast_natCast, Rat.intCast_natCast, rat_nd q]
    grind
  have e3 : q.num.natAbs * D = A.natAbs * q.den := by
    have := congrArg Int.natAbs e2
    rwa [Int.natAbs_mul, Int.natAbs_mul, Int.natAbs_natCast, Int.natAbs_natCast] at this
  have dv : q.den ∣ D := by
    have : q.den ∣ q.num.natAbs * D := ⟨A.natAbs, by rw [e3, Nat.mul_comm]⟩
    exact (Nat.Coprime.symm q.reduced).dvd_of_dvd_mul_left this
  have dl : q.den ≤ D := Nat.le_of_dvd h0 dv
  refine ⟨dl, ?_⟩
  have : q.num.natAbs ≤ A.natAbs := by
    have h1 : q.num.natAbs * D ≤ A.natAbs * D := by rw [e3]; exact Nat.mul_le_mul_left _ dl
    exact Nat.le_of_mul_le_mul_right h1 h0
  omega
/-- a chance with a small bottom -/
structure Ch (q : Rat) : Prop where
  l : 0 ≤ q
  h : q ≤ 1
  b : Bd q 60 60
theorem Ch.q {q : Rat} (c : Ch q) : Q q 1 1 := by
  have := c.b
  exact this
theorem Ch.nl {q : Rat} (s : Ch q) : 0 ≤ q.num := Rat.num_nonneg.mpr s.l
theorem Ch.nh {q : Rat} (s : Ch q) : q.num ≤ (q.den : Int) := by
  have h := (Rat.le_iff q 1).mp s.h
  simpa using h
theorem Ch.d {q : Rat} (s : Ch q) : q.den ≤ 60 := (bd_small s.b).1
/-! lists -/
theorem comp_list {ι : Type} {vs : List Nat} {src : Ev → Res (List D × Ev)} {tgt : D → Ev → Res Ev} {test : Ev → Res (Bool × Ev)} {elt : Ev → Res (D × Ev)} (it out : ι → D) {xs : List ι} {ε ε1 : Ev} (hs : src ε = .ok (xs.map it, ε1)) (hl : xs.length ≤ 1000000) (hn : noOw ε1 vs = true)
    (h : ∀ x ∈ xs, blkF vs tgt test elt (it x) ε1 = .ok (some (out x), ε1)) : eComp vs src tgt test elt ε = .ok (xs.map out, ε1) := by
  have t := eComp_filter (vs := vs) (tgt := tgt) (test := test) (elt := elt) it (fun _ => true) out hs rfl hl hn fun j hj => by
    rw [h j hj]
    rfl
  rwa [List.filter_eq_self.mpr fun _ _ => rfl] at t
theorem blk_yes {vs : List Nat} {tgt : D → Ev → Res Ev} {test : Ev → Res (Bool × Ev)} {elt : Ev → Res (D × Ev)} {x d : D} {ε ε1 ε2 ε3 ε4 : Ev} (h1 : tgt x (wipeE ε vs) = .ok ε1) (h2 : test ε1 = .ok (true, ε2)) (h3 : elt ε2 = .ok (d, ε3)) (h4 : backE ε ε3 vs = ε4) : blkF vs tgt test elt x ε = .ok (some d, ε4) := by
  simp only [blkF, h1, h2, h3, h4, Res.bind_ok, if_true]
theorem blk_no {vs : List Nat} {tgt : D → Ev → Res Ev} {test : Ev → Res (Bool × Ev)} {elt : Ev → Res (D × Ev)} {x : D} {ε ε1 ε2 ε4 : Ev} (h1 : tgt x (wipeE ε vs) = .ok ε1) (h2 : test ε1 = .ok (false, ε2)) (h4 : backE ε ε2 vs = ε4) : blkF vs tgt test elt x ε = .ok (none, ε4) := by
  simp only [blkF, h1, h2, h4, Res.bind_ok, if_false, Bool.false_eq_true]
theorem flat_nats : ∀ l : List Nat, flatL (l.map fun x : Nat => D.int (x : Int)) = some (l.map fun x : Nat => V.int (x : Int))
  | [] => rfl
  | x :: l => by
    show (match flatD (D.int (x : Int)), flatL (l.map fun x : Nat => D.int (x : Int)) with | some v, some vs => some (v :: vs) | _, _ => none) = _
    rw [flat_nats l]
    rfl
theorem in_nats (neg : Bool) (k : Nat) (l : List Nat) : dIn neg (.int (k : Int)) (.tup (l.map fun x : Nat => D.int (x : Int))) = .ok (.bl (if neg then !decide (k ∈ l) else decide (k ∈ l))) := by
  have e : inV (V.int (k : Int)) (l.map fun x : Nat => V.int (x : Int)) = decide (k ∈ l) := by
    induction l with
    | nil => rfl
    | cons x l ih =>
      show (((x : Int) == (k : Int)) || inV (V.int (k : Int)) (l.map fun x : Nat => V.int (x : Int))) = _
      rw [ih]
      by_cases h : k = x
      · subst h; simp
      · have h2 : ¬ ((x : Int) = (k : Int)) := by omega
        simp [h, h2]
  show inD neg _ _ = _
  unfold inD
  rw [flat_nats]
  show Res.ok (D.bl (if neg then !inV (V.int (k : Int)) _ else inV (V.int (k : Int)) _)) = _
  rw [e]
theorem ix_ps {L : List Rat} {i : Nat} {a : Rat} (h : L[i]? = some a) : dIx (.tup (L.map rd)) (.int (i : Int)) = .ok (rd a) := by
  show (match L2.atI (L.map rd) (i : Int) with | some x => Res.ok x | none => .stuck) = _
  rw [L2.atI_nat (show (L.map rd)[i]? = some (rd a) by rw [List.getElem?_map, h]; rfl)]
theorem add_lst0 {a b : List D} (h : a.length + b.length ≤ 1000000) : dAdd (.lst a) (.lst b) = .ok (.lst (a ++ b)) := by
  show (dCat _ _).bind _ = _
  simp only [dCat]
  rw [if_pos h]
  rfl
theorem rd0 : D.tup [.int 0, .int 1] = rd 0 := by rfl
theorem rd1 : D.tup [.int 1, .int 1] = rd 1 := by rfl
/-! checks -/
theorem whole_ok (v lo hi : Int) : g_is_whole [.int v, .int lo, .int hi] = .ok (.bl (decide (lo ≤ v) && decide (v ≤ hi))) := by
  by_cases h1 : lo ≤ v <;> by_cases h2 : v ≤ hi <;> simp [g_is_whole, b_is_whole, outRes, h1, h2]
theorem isp_ok {q : Rat} (h1 : q.num.natAbs ≤ 1000000000) (h2 : q.den ≤ 1000000000) : g_is_portion [rd q] = .ok (.bl true) := by
  have a1 : g_is_tuple_of [rd q, .int 2, .int 2] = .ok (.bl true) := by simp [g_is_tuple_of, b_is_tuple_of, outRes, rd]
  have a2 : g_is_whole [.int q.num, .int (-1000000000000000000000000000000000000000000000000000000000000), .int 1000000000000000000000000000000000000000000000000000000000000] = .ok (.bl true) := by
    rw [whole_ok]
    have a : (-1000000000000000000000000000000000000000000000000000000000000 : Int) ≤ q.num := by omega
    have b : q.num ≤ (1000000000000000000000000000000000000000000000000000000000000 : Int) := by omega
    simp [a, b]
  have a3 : g_is_whole [.int (q.den : Int), .int 1, .int 1000000000000000000000000000000000000000000000000000000000000] = .ok (.bl true) := by
    rw [whole_ok]
    have a : (1 : Int) ≤ (q.den : Int) := by have := q.den_pos; omega
    have b : (q.den : Int) ≤ (1000000000000000000000000000000000000000000000000000000000000 : Int) := by omega
    simp [a, b]
  have h4 : Nat.gcd q.num.natAbs q.den = 1 := q.reduced
  unfold rd at a1 ⊢
  simp [g_is_portion, b_is_portion, outRes, a1, a2, a3, h4, dEq_int]
theorem isc_ok {q : Rat} (s : Ch q) : g_is_chance [rd q] = .ok (.bl true) := by
  have n1 := s.nl
  have n2 := s.nh
  have n3 := s.d
  have p := isp_ok (q := q) (by omega) (by omega)
  have n4 : (q.den : Int) ≤ 1000 := by omega
  unfold rd at p ⊢
  simp [g_is_chance, b_is_chance, outRes, p, n1, n2, n4]
theorem allB_t {α : Type} : ∀ L : List α, PL.allB (L.map fun _ => D.bl true) = some (L.map fun _ => true)
  | [] => rfl
  | c :: L => by
    show (PL.allB (L.map fun _ => D.bl true)).map (true :: ·) = _
    rw [allB_t L]
    rfl
theorem tuple_of (ds : List D) {lo hi : Int} (h1 : lo ≤ (ds.length : Int)) (h2 : (ds.length : Int) ≤ hi) : g_is_tuple_of [.tup ds, .int lo, .int hi] = .ok (.bl true) := by
  simp [g_is_tuple_of, b_is_tuple_of, outRes, h1, h2]
abbrev ps (L : List Rat) : D := .tup (L.map rd)
structure Pt (L : List Rat) : Prop where
  n : L.length ≤ 12
  c : ∀ q ∈ L, Ch q
theorem need_parts_ok {L : List Rat} (v : Pt L) : g_need_parts [ps L] = .ok .non := by
  have n12 := v.n
  have t := tuple_of (L.map rd) (lo := 0) (hi := 12) (by omega) (by rw [List.length_map]; omega)
  have st : startE 2 [ps L] = [.pu (ps L), .em] := rfl
  have src : CS1_need_parts [.pu (ps L), .em] = .ok (L.map rd, [.pu (ps L), .em]) := rfl
  have cm : eComp [1] CS1_need_parts CT1_need_parts CP1_need_parts CE1_need_parts [.pu (ps L), .em] = .ok (L.map fun _ => .bl true, [.pu (ps L), .em]) :=
    comp_list rd (fun _ => .bl true) src (by omega) rfl fun q hq =>
      blk_yes (ε1 := [.pu (ps L), .pu (rd q)]) rfl rfl (eCB_ok (by rfl) (isc_ok (v.c q hq))) rfl
  have al : fAll [.lst (L.map fun _ => D.bl true)] = .ok (.bl true) := by
    simp [fAll, allB_t]
  show outRes (b_need_parts (startE 2 [ps L])) = _
  rw [st]
  unfold b_need_parts
  have c1 : bNot (bOf (eCB g_is_tuple_of (aCons (eV 0) (aCons (eC (.int 0)) (aCons (eC (.int 12)) aNil))))) [.pu (ps L), .em] = .ok (false, [.pu (ps L), .em]) := bNot_ok (c := true) (bOf_ok (eCB_ok (by rfl) t))
  have c2 : bNot (bOf (eCB fAll (aCons (eL (eComp [1] CS1_need_parts CT1_need_parts CP1_need_parts CE1_need_parts)) aNil))) [.pu (ps L), .em] = .ok (false, [.pu (ps L), .em]) := bNot_ok (c := true) (bOf_ok (eCB_ok (aCons_ok (eL_ok cm) aNil_ok) al))
  have o : bOr (bNot (bOf (eCB g_is_tuple_of (aCons (eV 0) (aCons (eC (.int 0)) (aCons (eC (.int 12)) aNil)))))) (bNot (bOf (eCB fAll (aCons (eL (eComp [1] CS1_need_parts CT1_need_parts CP1_need_parts CE1_need_parts)) aNil)))) [.pu (ps L), .em] = .ok (false, [.pu (ps L), .em]) := by
    simp only [bOr, c1, c2, Res.bind_ok, Bool.false_eq_true, if_false]
  rw [sIf_f o rfl]
theorem need_run_ok {k : Nat} (h1 : 1 ≤ k) (h : k ≤ 12) : g_need_run [.int (k : Int)] = .ok .non := by
  have w : g_is_whole [.int (k : Int), .int 1, .int 12] = .ok (.bl true) := by
    rw [whole_ok]
    have a : (1 : Int) ≤ (k : Int) := by omega
    have b : (k : Int) ≤ 12 := by omega
    simp [a, b]
  simp [g_need_run, b_need_run, g_need_whole, b_need_whole, outRes, w]
theorem drop_ok {f : Ev → Res (D × Ev)} {ε ε1 : Ev} {d : D} (h : f ε = .ok (d, ε1)) : sDrop f ε = .nx ε1 := by simp only [sDrop, h, Res.out]
/-! sums and steps -/
theorem tot_q {e M : Nat} : ∀ {l : List Rat}, (∀ q ∈ l, Q q e M) → Q (tot l) e (l.length * M)
  | [], _ => by rw [List.length_nil, Nat.zero_mul]; exact Q.zero
  | a :: l, h => by
    rw [tot_cons, List.length_cons, Nat.succ_mul, Nat.add_comm]
    exact Q.add (h a (by simp)) (tot_q fun q hq => h q (by simp [hq]))
theorem sum_loop {x0 : Slot} {e M : Nat} (he : e ≤ 32) (hM : M ≤ 2 ^ 190) : ∀ (l : List Rat) (z : Rat) (N : Nat) (j : Slot), Q z e N → (∀ q ∈ l, Q q e M) → N + l.length * M ≤ 2 ^ 190 → ∃ j', forF T1_sum_of B1_sum_of (l.map rd) [x0, .pu (rd z), j] = .nx [x0, .pu (rd (l.foldl (· + ·) z)), j']
  | [], z, N, j, _, _, _ => ⟨j, rfl⟩
  | q :: l, z, N, j, hz, hq, hs => by
    rw [List.length_cons, Nat.succ_mul] at hs
    have hq1 := hq q (by simp)
    have e1 := plus_ok (hz.sz he (by omega)) (hq1.sz he hM)
    obtain ⟨j', e2⟩ := sum_loop (x0 := x0) he hM l (z + q) (N + M) (.pu (rd q)) (hz.add hq1) (fun r hr => hq r (by simp [hr])) (by omega)
    refine ⟨j', ?_⟩
    have t1 : T1_sum_of (rd q) [x0, .pu (rd z), j] = .ok [x0, .pu (rd z), .pu (rd q)] := rfl
    have b1 : B1_sum_of [x0, .pu (rd z), .pu (rd q)] = .nx [x0, .pu (rd (z + q)), .pu (rd q)] := sTg_ok (eCB_ok (by rfl) e1) rfl
    rw [List.map_cons]
    simp only [forF, t1, Res.ne, b1, e2]
    rfl
theorem sum_ok {e M : Nat} {l : List Rat} {x : D} (hx : dSeq x = .ok (l.map rd)) (he : e ≤ 32) (hq : ∀ q ∈ l, Q q e M) (hM : M ≤ 2 ^ 190) (hs : l.length * M ≤ 2 ^ 190) : g_sum_of [x] = .ok (rd (tot l)) := by
  obtain ⟨j', e⟩ := sum_loop (x0 := .pu x) he hM l 0 0 .em Q.zero hq (by omega)
  have src : S1_sum_of [.pu x, .pu (rd 0), .em] = .ok (l.map rd, [.pu x, .pu (rd 0), .em]) := by simp [hx]
  have st : startE 3 [x] = [.pu x, .em, .em] := rfl
  show outRes (b_sum_of (startE 3 [x])) = _
  rw [st]
  unfold b_sum_of
  refine out_seq (ε1 := [.pu x, .pu (rd 0), .em]) (by rfl) ?_
  exact out_seq (ε1 := [.pu x, .pu (rd (tot l)), j']) (sFor_ok src e) (by rfl)
def fr (s : Slot) : Prop := s = .em ∨ ∃ d, s = .pu d
theorem whole_loop {x0 x1 x2 : Slot} {e M : Nat} (he : e ≤ 32) (hM : M ≤ 2 ^ 190) : ∀ (l : List Rat) (z : Rat) (N : Nat) (j : Slot), fr j → Q z e N → (∀ q ∈ l, Q q e M) → N + l.length * M ≤ 2 ^ 190 → ∃ j', fr j' ∧ forF T1_steps_in B1_steps_in (l.map rd) [x0, x1, x2, .pu (rd z), j] = .nx [x0, x1, x2, .pu (rd (l.foldl (· + ·) z)), j']
  | [], z, N, j, hj, _, _, _ => ⟨j, hj, rfl⟩
  | q :: l, z, N, j, hj, hz, hq, hs => by
    rw [List.length_cons, Nat.succ_mul] at hs
    have hq1 := hq q (by simp)
    have e1 := plus_ok (hz.sz he (by omega)) (hq1.sz he hM)
    obtain ⟨j', hj', e2⟩ := whole_loop (x0 := x0) (x1 := x1) (x2 := x2) he hM l (z + q) (N + M) (.pu (rd q)) (.inr ⟨_, rfl⟩) (hz.add hq1) (fun r hr => hq r (by simp [hr])) (by omega)
    refine ⟨j', hj', ?_⟩
    have t1 : T1_steps_in (rd q) [x0, x1, x2, .pu (rd z), j] = .ok [x0, x1, x2, .pu (rd z), .pu (rd q)] := rfl
    have b1 : B1_steps_in [x0, x1, x2, .pu (rd z), .pu (rd q)] = .nx [x0, x1, x2, .pu (rd (z + q)), .pu (rd q)] := sTg_ok (eCB_ok (by rfl) e1) rfl
    rw [List.map_cons]
    simp only [forF, t1, Res.ne, b1, e2]
    rfl
theorem Ch.rest {c : Rat} (h : Ch c) : Q (1 - c) 1 2 := Q.sub (Q.one (e := 1)) h.q
theorem mem_dropLast {α : Type} {x : α} {l : List α} (h : x ∈ l.dropLast) : x ∈ l := (List.dropLast_sublist l).mem h
theorem step_q {e M : Nat} {s : List Rat} {c : Rat} (h1 : s.length ≤ 12) (hs : ∀ q ∈ s, Q q e M) (hc : Ch c) : ∀ q ∈ step s c, Q q (e + 1) (12 * M) := by
  intro q hq
  simp only [step, List.mem_cons, List.mem_map] at hq
  rcases hq with rfl | ⟨r, hr, rfl⟩
  · have := (tot_q hs).mul hc.q
    rw [Nat.mul_one] at this
    exact this.mono (Nat.mul_le_mul_right _ h1)
  · exact ((hs r (mem_dropLast hr)).mul hc.rest).mono (by omega)
theorem add_lst {a b : List D} (h : a.length + b.length ≤ 1000000) : dAdd (.lst a) (.lst b) = .ok (.lst (a ++ b)) := by
  show (dCat _ _).bind _ = _
  simp only [dCat]
  rw [if_pos h]
  rfl
theorem step_turn {x0 x3 x4 : Slot} {e M : Nat} {s : List Rat} {c : Rat} (h4 : fr x4) (he : e ≤ 31) (hM : 12 * M ≤ 2 ^ 190) (hl : s.length ≤ 12) (hs : ∀ q ∈ s, Q q e M) (hc : Ch c) : ∃ y3 y4, fr y4 ∧ B2_steps_in [x0, .pu (.lst (s.map rd)), .pu (rd c), x3, x4] = .nx [x0, .pu (.lst ((step s c).map rd)), .pu (rd c), y3, y4] := by
  have hlM : s.length * M ≤ 12 * M := Nat.mul_le_mul_right _ hl
  obtain ⟨j', hj, lp⟩ := whole_loop (x0 := x0) (x1 := .pu (.lst (s.map rd))) (x2 := .pu (rd c)) (show e ≤ 32 by omega) (show M ≤ 2 ^ 190 by omega) s 0 0 x4 h4 Q.zero hs (by omega)
  have tq := tot_q hs
  have e1 := times_ok (tq.sz (by omega) (by omega)) (hc.q.sz (by decide) (by decide))
  let E : Slot → Ev := fun j => [x0, .pu (.lst (s.map rd)), .pu (rd c), .pu (rd (tot s)), j]
  have cut : dSl (.lst (s.map rd)) none (some (-1)) = .ok (.lst (s.dropLast.map rd)) := by
    show Res.ok (D.lst (cutD (s.map rd) none (some (-1)))) = _
    rw [cutD_init, List.map_dropLast]
  have src : ∀ j, CS1_steps_in (E j) = .ok (s.dropLast.map rd, E j) := fun j => by
    have v1 : eV 1 (E j) = .ok (.lst (s.map rd), E j) := rfl
    have v2 : oS (eUn dNeg (eC (.int 1))) (E j) = .ok (some (-1), E j) := rfl
    simp only [CS1_steps_in, iSeq, eSl, v1, oN, v2, Res.bind_ok, cut, dSeq]
  have dl : s.dropLast.length ≤ 12 := by rw [List.length_dropLast]; omega
  have cm : eComp [4] CS1_steps_in CT1_steps_in CP1_steps_in CE1_steps_in (E j') = .ok (s.dropLast.map fun q => rd (q * (1 - c)), E j') := by
    have e2 : ∀ q ∈ s.dropLast, g_times [rd q, rd (1 - c)] = .ok (rd (q * (1 - c))) := fun q hq => times_ok ((hs q (mem_dropLast hq)).sz (show e ≤ 32 by omega) (show M ≤ 2 ^ 190 by omega)) (hc.rest.sz (by decide) (by decide))
    rcases hj with rfl | ⟨d, rfl⟩
    · exact comp_list rd (fun q => rd (q * (1 - c))) (src _) (by omega) rfl fun q hq =>
        blk_yes (ε1 := E (.pu (rd q))) rfl rfl (eCB_ok (aCons_ok (by rfl) (aCons_ok (eCB_ok (by rfl) (rest_ok c)) aNil_ok)) (e2 q hq)) rfl
    · exact comp_list rd (fun q => rd (q * (1 - c))) (src _) (by omega) rfl fun q hq =>
        blk_yes (ε1 := E (.pu (rd q))) rfl rfl (eCB_ok (aCons_ok (by rfl) (aCons_ok (eCB_ok (by rfl) (rest_ok c)) aNil_ok)) (e2 q hq)) rfl
  refine ⟨.pu (rd (tot s)), j', hj, ?_⟩
  show (sSeq _ _) _ = _
  have a1 : sTg (tName 3) (eTup (aCons (eC (.int 0)) (aCons (eC (.int 1)) aNil))) [x0, .pu (.lst (s.map rd)), .pu (rd c), x3, x4] = .nx [x0, .pu (.lst (s.map rd)), .pu (rd c), .pu (rd 0), x4] := by rfl
  rw [sSeq_nx a1]
  have a2 : sFor S1_steps_in T1_steps_in B1_steps_in [x0, .pu (.lst (s.map rd)), .pu (rd c), .pu (rd 0), x4] = .nx (E j') := sFor_ok (ds := s.map rd) (ε1 := [x0, .pu (.lst (s.map rd)), .pu (rd c), .pu (rd 0), x4]) rfl lp
  rw [sSeq_nx a2]
  have ad : dAdd (.lst [rd (tot s * c)]) (.lst (s.dropLast.map fun q => rd (q * (1 - c)))) = .ok (.lst ((step s c).map rd)) := by
    rw [add_lst (by rw [List.length_map]; simp; omega)]
    unfold step
    rw [List.map_cons, List.map_map]
    rfl
  exact sTg_ok (eOp_ok (eL_ok (aCons_ok (eCB_ok (by rfl) e1) aNil_ok)) (eL_ok cm) ad) rfl
theorem steps_loop {x0 : Slot} : ∀ (L : List Rat) (s : List Rat) (e M : Nat) (x2 x3 x4 : Slot), fr x4 → (∀ c ∈ L, Ch c) → e + L.length ≤ 31 → 12 ^ L.length * M ≤ 2 ^ 190 → 1 ≤ s.length → s.length ≤ 12 → (∀ q ∈ s, Q q e M) → ∃ y2 y3 y4,
    forF T2_steps_in B2_steps_in (L.map rd) [x0, .pu (.lst (s.map rd)), x2, x3, x4] = .nx [x0, .pu (.lst ((stp L s).map rd)), y2, y3, y4] ∧ (∀ q ∈ stp L s, Q q (e + L.length) (12 ^ L.length * M))
  | [], s, e, M, x2, x3, x4, _, _, _, _, _, _, hs => ⟨x2, x3, x4, rfl, by simpa [stp] using hs⟩
  | c :: L, s, e, M, x2, x3, x4, h4, hc, he, hM, h1, hl, hs => by
    rw [List.length_cons] at he hM
    rw [Nat.pow_succ, Nat.mul_assoc] at hM
    have p1 : 1 ≤ 12 ^ L.length := Nat.pow_pos (by decide)
    have hM1 : 12 * M ≤ 2 ^ 190 := Nat.le_trans (Nat.le_mul_of_pos_left _ p1) hM
    obtain ⟨y3, y4, f4, e1⟩ := step_turn (x0 := x0) (x3 := x3) (x4 := x4) h4 (show e ≤ 31 by omega) hM1 hl hs (hc c (by simp))
    obtain ⟨z2, z3, z4, e2, q2⟩ := steps_loop (x0 := x0) L (step s c) (e + 1) (12 * M) (.pu (rd c)) y3 y4 f4 (fun d hd => hc d (by simp [hd])) (by omega) hM (by rw [step_len s c h1]; exact h1) (by rw [step_len s c h1]; exact hl) (step_q hl hs (hc c (by simp)))
    refine ⟨z2, z3, z4, ?_, fun q hq => ?_⟩
    · have t1 : T2_steps_in (rd c) [x0, .pu (.lst (s.map rd)), x2, x3, x4] = .ok [x0, .pu (.lst (s.map rd)), .pu (rd c), x3, x4] := rfl
      rw [List.map_cons]
      simp only [forF, t1, Res.ne, e1, e2]
      rfl
    · have := q2 q hq
      rw [List.length_cons, Nat.pow_succ, Nat.mul_assoc, show e + (L.length + 1) = e + 1 + L.length by omega]
      exact this
theorem steps_ok {L s : List Rat} {e M : Nat} {x : D} (hx : dSeq x = .ok (L.map rd)) (hc : ∀ c ∈ L, Ch c) (he : e + L.length ≤ 31) (hM : 12 ^ L.length * M ≤ 2 ^ 190) (h1 : 1 ≤ s.length) (hl : s.length ≤ 12) (hs : ∀ q ∈ s, Q q e M) : g_steps_in [x, .lst (s.map rd)] = .ok (.lst ((stp L s).map rd)) ∧ (∀ q ∈ stp L s, Q q (e + L.length) (12 ^ L.length * M)) := by
  obtain ⟨y2, y3, y4, e1, q1⟩ := steps_loop (x0 := .pu x) L s e M .em .em .em (.inl rfl) hc he hM h1 hl hs
  refine ⟨?_, q1⟩
  have src : S2_steps_in [.pu x, .pu (.lst (s.map rd)), .em, .em, .em] = .ok (L.map rd, [.pu x, .pu (.lst (s.map rd)), .em, .em, .em]) := by simp [hx]
  have st : startE 5 [x, .lst (s.map rd)] = [.pu x, .pu (.lst (s.map rd)), .em, .em, .em] := rfl
  show outRes (b_steps_in (startE 5 [x, .lst (s.map rd)])) = _
  rw [st]
  unfold b_steps_in
  exact out_seq (sFor_ok src e1) (out_ret rfl)
theorem s0_q {k e M : Nat} {x : Rat} (h : Q x e M) : ∀ q ∈ s0 k x, Q q e M := by
  intro q hq
  simp only [s0, List.mem_cons] at hq
  rcases hq with rfl | hq
  · exact h
  · rw [(List.mem_replicate.mp hq).2]
    exact Q.zero.mono (Nat.zero_le _)
theorem s0_length {k : Nat} (x : Rat) (h : 1 ≤ k) : (s0 k x).length = k := by simp [s0]; omega
theorem flat_rep (d : D) : ∀ m, (List.replicate m [d]).flatten = List.replicate m d
  | 0 => rfl
  | m + 1 => by rw [List.replicate_succ, List.replicate_succ, List.flatten_cons, flat_rep d m]; rfl
theorem rep_lst (d : D) {z : Int} {m : Nat} (hz : z = (m : Int)) (h : m ≤ 1000) : dMul (.lst [d]) (.int z) = .ok (.lst (List.replicate m d)) := by
  subst hz
  have a : (m : Int) ≤ 1000 ∧ (-1000 : Int) ≤ (m : Int) ∧ [d].length ≤ 1000 := ⟨by omega, by omega, by simp⟩
  show (dRep (.lst [d]) (.int (m : Int))).bind _ = _
  simp only [dRep]
  rw [if_pos a, Int.toNat_natCast, flat_rep]
  rfl
theorem rep_tup (d : D) {m : Nat} (h : m ≤ 1000) : dMul (.tup [d]) (.int (m : Int)) = .ok (.tup (List.replicate m d)) := by
  have a : (m : Int) ≤ 1000 ∧ (-1000 : Int) ≤ (m : Int) ∧ [d].length ≤ 1000 := ⟨by omega, by omega, by simp⟩
  show (if (m : Int) ≤ 1000 ∧ (-1000 : Int) ≤ (m : Int) ∧ [d].length ≤ 1000 then Res.ok (D.tup (List.replicate (m : Int).toNat [d]).flatten) else _) = _
  rw [if_pos a, Int.toNat_natCast, flat_rep]
theorem s0_add {k : Nat} {x : Rat} (h1 : 1 ≤ k) (h2 : k ≤ 12) : dAdd (.lst [rd x]) (.lst (List.replicate (k - 1) (rd 0))) = .ok (.lst ((s0 k x).map rd)) := by
  rw [add_lst (by rw [List.length_replicate]; simp; omega)]
  unfold s0
  rw [List.map_cons, List.map_replicate]
  rfl
theorem p12 {n : Nat} (h : n ≤ 12) : 12 ^ n ≤ 2 ^ 44 := Nat.le_trans (Nat.pow_le_pow_right (by decide) h) (by decide)
theorem row_in_ok {L : List Rat} {k : Nat} {x : D} (hx : dSeq x = .ok (L.map rd)) (hc : ∀ c ∈ L, Ch c) (hn : L.length ≤ 12) (h1 : 1 ≤ k) (h2 : k ≤ 12) : g_row_in [x, .int (k : Int)] = .ok (rd (row L k)) := by
  have b := p12 hn
  have hz := s0_length (k := k) 1 h1
  obtain ⟨e1, q1⟩ := steps_ok (s := s0 k 1) (e := 0) (M := 1) hx hc (by omega) (by rw [Nat.mul_one]; exact Nat.le_trans b (by decide)) (by omega) (by omega) (s0_q Q.one)
  have ln : (stp L (s0 k 1)).length = k := by rw [stp_len _ _ (by omega), hz]
  have mm : (stp L (s0 k 1)).length * (12 ^ L.length * 1) ≤ 2 ^ 190 := by
    rw [ln]
    have : k * (12 ^ L.length * 1) ≤ 12 * (2 ^ 44 * 1) := Nat.mul_le_mul h2 (Nat.mul_le_mul_right _ b)
    exact Nat.le_trans this (by decide)
  have e2 := sum_ok (l := stp L (s0 k 1)) (x := .lst ((stp L (s0 k 1)).map rd)) rfl (show 0 + L.length ≤ 32 by omega) q1 (by rw [Nat.mul_one]; exact Nat.le_trans b (by decide)) mm
  have r := rep_lst (rd 0) (z := (k : Int) - 1) (m := k - 1) (by omega) (by omega)
  have ad := s0_add (k := k) (x := 1) h1 h2
  have st : startE 2 [x, .int (k : Int)] = [.pu x, .pu (.int (k : Int))] := rfl
  show outRes (b_row_in (startE 2 [x, .int (k : Int)])) = _
  rw [st]
  unfold b_row_in
  exact out_ret (eCB_ok (aCons_ok (eCB_ok (aCons_ok (by rfl) (aCons_ok (eOp_ok (by rfl) (eOp_ok (by rfl) (by rfl) r) ad) aNil_ok)) e1) aNil_ok) e2)
theorem row_without_ok {L : List Rat} {k : Nat} (v : Pt L) (h1 : 1 ≤ k) (h2 : k ≤ 12) : g_row_without [ps L, .int (k : Int)] = .ok (rd (row L k)) := by
  have a := need_parts_ok v
  have b := need_run_ok h1 h2
  have c := row_in_ok (x := ps L) rfl v.c v.n h1 h2
  let E : Ev := [.pu (ps L), .pu (.int (k : Int))]
  have st : startE 2 [ps L, .int (k : Int)] = E := rfl
  show outRes (b_row_without (startE 2 [ps L, .int (k : Int)])) = _
  rw [st]
  unfold b_row_without
  refine out_seq (ε1 := E) (drop_ok (eCB_ok (by rfl) a)) ?_
  refine out_seq (ε1 := E) (drop_ok (eCB_ok (by rfl) b)) ?_
  exact out_ret (eCB_ok (by rfl) c)
end W41
namespace W41
open PySem L2 PL
/-! rings in the program -/
def K13 : Nat := 12 ^ 13
theorem k13 : K13 = 106993205379072 := by decide
theorem ring_loop {L : List Rat} {k : Nat} (hc : ∀ c ∈ L, Ch c) (hn : L.length ≤ 12) (h1 : 1 ≤ k) (hk : k ≤ L.length) : ∀ (m a : Nat) (f lead : Rat) (s4 s5 s6 : Slot), a + m = k → Q f 12 (a * K13) → Q lead a (2 ^ a) → ∃ t3 t4 t5 t6,
    forF T1_ring_in B1_ring_in ((List.range' a m).map fun i : Nat => D.int (i : Int)) [.pu (ps L), .pu (.int (k : Int)), .pu (rd f), .pu (rd lead), s4, s5, s6] = .nx [.pu (ps L), .pu (.int (k : Int)), .pu (rd (f + rgs k a lead (L.drop a))), t3, t4, t5, t6]
  | 0, a, f, lead, s4, s5, s6, ha, hf, hl => by
    have z : rgs k a lead (L.drop a) = 0 := by
      cases L.drop a with
      | nil => rfl
      | cons c R => simp only [rgs]; rw [if_neg (by omega)]
    rw [z, show f + 0 = f by grind]
    exact ⟨_, s4, s5, s6, rfl⟩
  | m + 1, a, f, lead, s4, s5, s6, ha, hf, hl => by
    have hlt : a < L.length := by omega
    have ga : L[a]? = some L[a] := List.getElem?_eq_getElem hlt
    have dr : L.drop a = L[a] :: L.drop (a + 1) := List.drop_eq_getElem_cons hlt
    have cc := hc L[a] (List.getElem_mem hlt)
    generalize L[a] = c at ga dr cc
    have p2 : 2 ^ a ≤ 2 ^ 12 := Nat.pow_le_pow_right (by decide) (by omega)
    have sl : Sz lead := hl.sz (by omega) (Nat.le_trans p2 (by decide))
    have qst : Q (lead * c) (a + 1) (2 ^ a) := by
      have := hl.mul cc.q
      rwa [Nat.mul_one] at this
    have e1 := times_ok sl (cc.q.sz (by decide) (by decide))
    have rl : (L.drop (a + 1)).length = L.length - (a + 1) := List.length_drop
    have m44 := p12 (n := L.length - (a + 1)) (by omega)
    have m56 : 12 ^ (L.length - (a + 1)) * 2 ^ a ≤ 2 ^ 44 * 2 ^ 12 := Nat.mul_le_mul m44 p2
    have b56 : (2 : Nat) ^ 44 * 2 ^ 12 ≤ 2 ^ 190 := by decide
    have hz := s0_length (k := k) (lead * c) h1
    obtain ⟨e2, q2⟩ := steps_ok (L := L.drop (a + 1)) (s := s0 k (lead * c)) (e := a + 1) (M := 2 ^ a) (x := .tup ((L.drop (a + 1)).map rd)) rfl (fun d hd => hc d (List.mem_of_mem_drop hd)) (by rw [rl]; omega) (by rw [rl]; omega) (by omega) (by omega) (s0_q qst)
    rw [rl] at q2
    have ln : (stp (L.drop (a + 1)) (s0 k (lead * c))).length = k := by rw [stp_len _ _ (by omega), hz]
    obtain ⟨S, hS⟩ : ∃ S, S = stp (L.drop (a + 1)) (s0 k (lead * c)) := ⟨_, rfl⟩
    rw [← hS] at e2 q2 ln
    have small : 12 ^ (L.length - (a + 1)) * 2 ^ a ≤ 12 ^ 12 := by
      have x1 : 2 ^ a ≤ 12 ^ a := Nat.pow_le_pow_left (by decide) a
      have x2 : 12 ^ (L.length - (a + 1)) * 2 ^ a ≤ 12 ^ (L.length - (a + 1)) * 12 ^ a := Nat.mul_le_mul_left _ x1
      rw [← Nat.pow_add] at x2
      exact Nat.le_trans x2 (Nat.pow_le_pow_right (by decide) (by omega))
    have qt : ∀ q ∈ S.take (k - a), Q q 12 (12 ^ 12) := fun q hq => ((q2 q (List.mem_of_mem_take hq)).up (by omega)).mono small
    have tl : (S.take (k - a)).length ≤ 12 := by rw [List.length_take]; omega
    have e3 := sum_ok (l := S.take (k - a)) (x := .lst ((S.take (k - a)).map rd)) rfl (show 12 ≤ 32 by decide) qt (by decide) (by
      have : (S.take (k - a)).length * 12 ^ 12 ≤ 12 * 12 ^ 12 := Nat.mul_le_mul_right _ tl
      exact Nat.le_trans this (by decide))
    have q3 : Q (tot (S.take (k - a))) 12 K13 := (tot_q qt).mono (by
      have : (S.take (k - a)).length * 12 ^ 12 ≤ 12 * 12 ^ 12 := Nat.mul_le_mul_right _ tl
      exact Nat.le_trans this (by decide))
    have fM : a * K13 ≤ 2 ^ 190 := by
      have : a * K13 ≤ 12 * K13 := Nat.mul_le_mul_right _ (by omega)
      exact Nat.le_trans this (by decide)
    have e4 := plus_ok (hf.sz (by decide) fM) (q3.sz (by decide) (by decide))
    have qf : Q (f + tot (S.take (k - a))) 12 ((a + 1) * K13) := by
      rw [Nat.succ_mul]
      exact hf.add q3
    have e5 := times_ok sl (cc.rest.sz (by decide) (by decide))
    have ql : Q (lead * (1 - c)) (a + 1) (2 ^ (a + 1)) := by
      rw [Nat.pow_succ]
      exact hl.mul cc.rest
    obtain ⟨t3, t4, t5, t6, e6⟩ := ring_loop hc hn h1 hk m (a + 1) (f + tot (S.take (k - a))) (lead * (1 - c)) (.pu (.int (a : Int))) (.pu (rd (lead * c))) (.pu (.lst (S.map rd))) (by omega) qf ql
    refine ⟨t3, t4, t5, t6, ?_⟩
    have rr : rgs k a lead (L.drop a) = tot (S.take (k - a)) + rgs k (a + 1) (lead * (1 - c)) (L.drop (a + 1)) := by
      rw [dr]
      simp only [rgs]
      rw [if_pos (by omega), hS]
    have ix := ix_ps ga
    have d1 : dSl (ps L) (some ((a : Int) + 1)) none = .ok (.tup ((L.drop (a + 1)).map rd)) := by
      show Res.ok (D.tup (cutD (L.map rd) (some ((a : Int) + 1)) none)) = _
      rw [show (a : Int) + 1 = ((a + 1 : Nat) : Int) by omega, cutD_drop, List.map_drop]
    have d2 : dSl (.lst (S.map rd)) none (some ((k : Int) - (a : Int))) = .ok (.lst ((S.take (k - a)).map rd)) := by
      show Res.ok (D.lst (cutD (S.map rd) none (some ((k : Int) - (a : Int))))) = _
      rw [show (k : Int) - (a : Int) = ((k - a : Nat) : Int) by omega, cutD_take, List.map_take]
    have r := rep_lst (rd 0) (z := (k : Int) - 1) (m := k - 1) (by omega) (by omega)
    have ad := s0_add (k := k) (x := lead * c) h1 (by omega)
    let E : Slot → Slot → Slot → Slot → Ev := fun x2 x3 x5 x6 => [.pu (ps L), .pu (.int (k : Int)), x2, x3, .pu (.int (a : Int)), x5, x6]
    have t1 : T1_ring_in (.int (a : Int)) [.pu (ps L), .pu (.int (k : Int)), .pu (rd f), .pu (rd lead), s4, s5, s6] = .ok (E (.pu (rd f)) (.pu (rd lead)) s5 s6) := rfl
    have b1 : B1_ring_in (E (.pu (rd f)) (.pu (rd lead)) s5 s6) = .nx (E (.pu (rd (f + tot (S.take (k - a))))) (.pu (rd (lead * (1 - c)))) (.pu (rd (lead * c))) (.pu (.lst (S.map rd)))) := by
      show (sSeq _ _) _ = _
      have a1 : sTg (tName 5) (eCB g_times (aCons (eV 3) (aCons (eOp dIx (eV 0) (eV 4)) aNil))) (E (.pu (rd f)) (.pu (rd lead)) s5 s6) = .nx (E (.pu (rd f)) (.pu (rd lead)) (.pu (rd (lead * c))) s6) := sTg_ok (eCB_ok (aCons_ok (by rfl) (aCons_ok (eOp_ok (by rfl) (by rfl) ix) aNil_ok)) e1) rfl
      rw [sSeq_nx a1]
      have sv : eSl (eV 0) (oS (eOp dAdd (eV 4) (eC (.int 1)))) oN (E (.pu (rd f)) (.pu (rd lead)) (.pu (rd (lead * c))) s6) = .ok (.tup ((L.drop (a + 1)).map rd), E (.pu (rd f)) (.pu (rd lead)) (.pu (rd (lead * c))) s6) := by
        have v1 : eV 0 (E (.pu (rd f)) (.pu (rd lead)) (.pu (rd (lead * c))) s6) = .ok (ps L, E (.pu (rd f)) (.pu (rd lead)) (.pu (rd (lead * c))) s6) := rfl
        have v2 : oS (eOp dAdd (eV 4) (eC (.int 1))) (E (.pu (rd f)) (.pu (rd lead)) (.pu (rd (lead * c))) s6) = .ok (some ((a : Int) + 1), E (.pu (rd f)) (.pu (rd lead)) (.pu (rd (lead * c))) s6) := rfl
        simp only [eSl, v1, v2, oN, Res.bind_ok, d1]
      have a2 : sTg (tName 6) (eCB g_steps_in (aCons (eSl (eV 0) (oS (eOp dAdd (eV 4) (eC (.int 1)))) oN) (aCons (eOp dAdd (eL (aCons (eV 5) aNil)) (eOp dMul (eL (aCons (eTup (aCons (eC (.int 0)) (aCons (eC (.int 1)) aNil))) aNil)) (eOp dSub (eV 1) (eC (.int 1))))) aNil))) (E (.pu (rd f)) (.pu (rd lead)) (.pu (rd (lead * c))) s6) = .nx (E (.pu (rd f)) (.pu (rd lead)) (.pu (rd (lead * c))) (.pu (.lst (S.map rd)))) :=
        sTg_ok (eCB_ok (aCons_ok sv (aCons_ok (eOp_ok (by rfl) (eOp_ok (by rfl) (by rfl) r) ad) aNil_ok)) e2) rfl
      rw [sSeq_nx a2]
      have sw : eSl (eV 6) oN (oS (eOp dSub (eV 1) (eV 4))) (E (.pu (rd f)) (.pu (rd lead)) (.pu (rd (lead * c))) (.pu (.lst (S.map rd)))) = .ok (.lst ((S.take (k - a)).map rd), E (.pu (rd f)) (.pu (rd lead)) (.pu (rd (lead * c))) (.pu (.lst (S.map rd)))) := by
        have v1 : eV 6 (E (.pu (rd f)) (.pu (rd lead)) (.pu (rd (lead * c))) (.pu (.lst (S.map rd)))) = .ok (.lst (S.map rd), E (.pu (rd f)) (.pu (rd lead)) (.pu (rd (lead * c))) (.pu (.lst (S.map rd)))) := rfl
        have v2 : oS (eOp dSub (eV 1) (eV 4)) (E (.pu (rd f)) (.pu (rd lead)) (.pu (rd (lead * c))) (.pu (.lst (S.map rd)))) = .ok (some ((k : Int) - (a : Int)), E (.pu (rd f)) (.pu (rd lead)) (.pu (rd (lead * c))) (.pu (.lst (S.map rd)))) := rfl
        simp only [eSl, v1, v2, oN, Res.bind_ok, d2]
      have a3 : sTg (tName 2) (eCB g_plus (aCons (eV 2) (aCons (eCB g_sum_of (aCons (eSl (eV 6) oN (oS (eOp dSub (eV 1) (eV 4)))) aNil)) aNil))) (E (.pu (rd f)) (.pu (rd lead)) (.pu (rd (lead * c))) (.pu (.lst (S.map rd)))) = .nx (E (.pu (rd (f + tot (S.take (k - a))))) (.pu (rd lead)) (.pu (rd (lead * c))) (.pu (.lst (S.map rd)))) :=
        sTg_ok (eCB_ok (aCons_ok (by rfl) (aCons_ok (eCB_ok (aCons_ok sw aNil_ok) e3) aNil_ok)) e4) rfl
      rw [sSeq_nx a3]
      exact sTg_ok (eCB_ok (aCons_ok (by rfl) (aCons_ok (eCB_ok (aCons_ok (eOp_ok (by rfl) (by rfl) ix) aNil_ok) (rest_ok c)) aNil_ok)) e5) rfl
    rw [List.range'_succ, List.map_cons, rr, show f + (tot (S.take (k - a)) + rgs k (a + 1) (lead * (1 - c)) (L.drop (a + 1))) = f + tot (S.take (k - a)) + rgs k (a + 1) (lead * (1 - c)) (L.drop (a + 1)) by grind]
    simp only [forF, t1, Res.ne, b1, e6]
    exact e6
theorem ring_in_ok {L : List Rat} {k : Nat} (hc : ∀ c ∈ L, Ch c) (hn : L.length ≤ 12) (h1 : 1 ≤ k) (h2 : k ≤ 12) : g_ring_in [ps L, .int (k : Int)] = .ok (rd (ring L k)) := by
  let E : Ev := [.pu (ps L), .pu (.int (k : Int)), .em, .em, .em, .em, .em]
  have st : startE 7 [ps L, .int (k : Int)] = E := rfl
  have ln : fLen [ps L] = .ok (.int (L.length : Int)) := by show Res.ok (D.int ((L.map rd).length : Int)) = _; rw [List.length_map]
  have gt : dGt (.int (k : Int)) (.int (L.length : Int)) = .ok (.bl (decide (k > L.length))) := by
    show Res.ok (D.bl (decide ((L.length : Int) < (k : Int)))) = _
    congr 2
    exact decide_eq_decide.mpr (by omega)
  have tst : bOf (eOp dGt (eV 1) (eCB fLen (aCons (eV 0) aNil))) E = .ok (decide (k > L.length), E) := bOf_ok (eOp_ok (by rfl) (eCB_ok (by rfl) ln) gt)
  show outRes (b_ring_in (startE 7 [ps L, .int (k : Int)])) = _
  rw [st]
  unfold b_ring_in
  by_cases h : k > L.length
  · rw [decide_eq_true h] at tst
    have e : ring L k = 1 := by unfold ring; rw [if_pos h]
    rw [e]
    have a1 : sIf (bOf (eOp dGt (eV 1) (eCB fLen (aCons (eV 0) aNil)))) (sRet (eTup (aCons (eC (.int 1)) (aCons (eC (.int 1)) aNil)))) (fun ε => .nx ε) E = .rt (rd 1) E := sIf_t tst (by rfl)
    simp only [sSeq, a1, Out.andThen, outRes]
  · rw [decide_eq_false h] at tst
    refine out_seq (ε1 := E) (sIf_f tst rfl) ?_
    obtain ⟨t3, t4, t5, t6, e⟩ := ring_loop hc hn h1 (by omega) k 0 0 1 .em .em .em (by omega) (by rw [Nat.zero_mul]; exact Q.zero) Q.one
    rw [← List.range_eq_range', List.drop_zero, show (0 : Rat) + rgs k 0 1 L = ring L k by unfold ring; rw [if_neg h]; grind] at e
    refine out_seq (ε1 := [.pu (ps L), .pu (.int (k : Int)), .pu (rd 0), .pu (rd 1), .em, .em, .em]) (by rfl) ?_
    have src : S1_ring_in [.pu (ps L), .pu (.int (k : Int)), .pu (rd 0), .pu (rd 1), .em, .em, .em] = .ok ((List.range k).map fun i : Nat => D.int (i : Int), [.pu (ps L), .pu (.int (k : Int)), .pu (rd 0), .pu (rd 1), .em, .em, .em]) :=
      iCall_ok (g := fRange) (ds := [.int (k : Int)]) (by rfl) (fRange1 rfl (by omega))
    exact out_seq (sFor_ok src e) (out_ret rfl)
theorem ring_without_ok {L : List Rat} {k : Nat} (v : Pt L) (h1 : 1 ≤ k) (h2 : k ≤ 12) : g_ring_without [ps L, .int (k : Int)] = .ok (rd (ring L k)) := by
  have a := need_parts_ok v
  have b := need_run_ok h1 h2
  have c := ring_in_ok v.c v.n h1 h2
  let E : Ev := [.pu (ps L), .pu (.int (k : Int))]
  have st : startE 2 [ps L, .int (k : Int)] = E := rfl
  show outRes (b_ring_without (startE 2 [ps L, .int (k : Int)])) = _
  rw [st]
  unfold b_ring_without
  refine out_seq (ε1 := E) (drop_ok (eCB_ok (by rfl) a)) ?_
  refine out_seq (ε1 := E) (drop_ok (eCB_ok (by rfl) b)) ?_
  exact out_ret (eCB_ok (by rfl) c)
/-! sums in the law -/
theorem lt_loop {D' : Nat} {x0 : Slot} (hD : D' < 2 ^ 420) : ∀ (ls : List Rat) (acc : Rat) (N : Nat) (j : Slot), Bd acc D' N → (∀ q ∈ ls, Bd q D' D') → N + ls.length * D' < 2 ^ 420 → ∃ j', forF T1__law_total B1__law_total (ls.map rd) [x0, .pu (rd acc), j] = .nx [x0, .pu (rd (ls.foldl (· + ·) acc)), j']
  | [], acc, N, j, _, _, _ => ⟨j, rfl⟩
  | q :: ls, acc, N, j, ha, hq, hs => by
    rw [List.length_cons, Nat.succ_mul] at hs
    have hq1 := hq q (by simp)
    have e1 := lplus_ok (ha.sz hD (by omega)) (hq1.sz hD hD)
    obtain ⟨j', e2⟩ := lt_loop (x0 := x0) hD ls (acc + q) (N + D') (.pu (rd q)) (ha.add hq1) (fun r hr => hq r (by simp [hr])) (by omega)
    refine ⟨j', ?_⟩
    have t1 : T1__law_total (rd q) [x0, .pu (rd acc), j] = .ok [x0, .pu (rd acc), .pu (rd q)] := rfl
    have b1 : B1__law_total [x0, .pu (rd acc), .pu (rd q)] = .nx [x0, .pu (rd (acc + q)), .pu (rd q)] := sTg_ok (eCB_ok (by rfl) e1) rfl
    rw [List.map_cons]
    simp only [forF, t1, Res.ne, b1, e2]
    rfl
theorem ltotal_ok {D' : Nat} {ls : List Rat} {x : D} (hx : dSeq x = .ok (ls.map rd)) (h0 : 0 < D') (hD : D' < 2 ^ 420) (hq : ∀ q ∈ ls, Bd q D' D') (hs : ls.length * D' < 2 ^ 420) : g__law_total [x] = .ok (rd (tot ls)) := by
  obtain ⟨j', e⟩ := lt_loop (x0 := .pu x) hD ls 0 0 .em ⟨h0, 0, by simp, by simp⟩ hq (by omega)
  have src : S1__law_total [.pu x, .pu (rd 0), .em] = .ok (ls.map rd, [.pu x, .pu (rd 0), .em]) := by simp [hx]
  have st : startE 3 [x] = [.pu x, .em, .em] := rfl
  show outRes (b__law_total (startE 3 [x])) = _
  rw [st]
  unfold b__law_total
  refine out_seq (ε1 := [.pu x, .pu (rd 0), .em]) (by rfl) ?_
  exact out_seq (ε1 := [.pu x, .pu (rd (tot ls)), j']) (sFor_ok src e) (by rfl)
/-! comprehensions with a test -/
theorem comp_dec {ι : Type} {vs : List Nat} {src : Ev → Res (List D × Ev)} {tgt : D → Ev → Res Ev} {test : Ev → Res (Bool × Ev)} {elt : Ev → Res (D × Ev)} (it out : ι → D) (P : ι → Prop) [DecidablePred P] (E1 : ι → Ev) {xs : List ι} {ε : Ev} (hs : src ε = .ok (xs.map it, ε)) (hl : xs.length ≤ 1000000) (hn : noOw ε vs = true)
    (ht : ∀ x ∈ xs, tgt (it x) (wipeE ε vs) = .ok (E1 x)) (tst : ∀ x ∈ xs, test (E1 x) = .ok (decide (P x), E1 x)) (he : ∀ x ∈ xs, elt (E1 x) = .ok (out x, E1 x)) (hb : ∀ x ∈ xs, backE ε (E1 x) vs = ε) : eComp vs src tgt test elt ε = .ok ((xs.filter fun x => decide (P x)).map out, ε) :=
  eComp_filter it (fun x => decide (P x)) out hs rfl hl hn fun x hx => by
    by_cases h : P x
    · rw [blk_yes (ht x hx) (by rw [tst x hx, decide_eq_true h]) (he x hx) (hb x hx)]
      simp [h]
    · rw [blk_no (ht x hx) (by rw [tst x hx, decide_eq_false h]) (hb x hx)]
      simp [h]
end W41
namespace W41
open PySem L2 PL
theorem like_int (n : Nat) (a : Int) : g__law_like (n + 1) [.int a, .int a] = .ok (.bl true) := by
  have s : g__law_sort [.int a] = .ok (.int 2) := by rfl
  have i1 : dIn false (.int 2) (.tup [.int 4, .int 5]) = .ok (.bl false) := by rfl
  show outRes (b__law_like (g__law_like n) (startE 5 [.int a, .int a])) = _
  simp [b__law_like, s, i1, dNe_int, dEq_int]
theorem like_bl (n : Nat) (a : Bool) : g__law_like (n + 1) [.bl a, .bl a] = .ok (.bl true) := by
  have s : g__law_sort [.bl a] = .ok (.int 1) := by rfl
  have i1 : dIn false (.int 1) (.tup [.int 4, .int 5]) = .ok (.bl false) := by rfl
  have e : dEq (.bl a) (.bl a) = .ok (.bl true) := by cases a <;> rfl
  show outRes (b__law_like (g__law_like n) (startE 5 [.bl a, .bl a])) = _
  simp [b__law_like, s, i1, dNe_int, dEq_int, e]
/-- leaves are whole numbers or truth values, tuples and lists of them at most so deep -/
inductive Plain : Nat → D → Prop
  | int (n : Nat) (a : Int) : Plain (n + 1) (.int a)
  | bl (n : Nat) (a : Bool) : Plain (n + 1) (.bl a)
  | tup (n : Nat) (ds : List D) (h : ∀ d ∈ ds, Plain n d) (hl : ds.length ≤ 1000000) : Plain (n + 1) (.tup ds)
  | lst (n : Nat) (ds : List D) (h : ∀ d ∈ ds, Plain n d) (hl : ds.length ≤ 1000000) : Plain (n + 1) (.lst ds)
theorem zip_self : ∀ ds : List D, zipD ds ds = ds.map fun d => .tup [d, d]
  | [] => rfl
  | d :: ds => by simp [zipD, zip_self ds]
theorem like_all {n : Nat} {x y : D} {s3 s4 : Slot} (hs3 : slotFree [.em, .em, .em, s3, s4] 3 = true) (hs4 : slotFree [.em, .em, .em, s3, s4] 4 = true) : ∀ (ds : List D), (∀ d ∈ ds, g__law_like n [d, d] = .ok (.bl true)) → ∀ (sl : Slot),
    loopC [3, 4] (blkF [3, 4] (CT1__law_like (g__law_like n)) (CP1__law_like (g__law_like n)) (CE1__law_like (g__law_like n))) (ds.map fun d => .tup [d, d]) [.pu x, .pu y, sl, s3, s4] [] = .ok ([], [.pu x, .pu y, sl, s3, s4])
  | [], _, _ => rfl
  | d :: ds, h, sl => by
    have hd := h d List.mem_cons_self
    have t := like_all (x := x) (y := y) hs3 hs4 ds (fun e he => h e (List.mem_cons_of_mem _ he)) sl
    have q3 : slotFree [.pu x, .pu y, sl, s3, s4] 3 = true := hs3
    have q4 : slotFree [.pu x, .pu y, sl, s3, s4] 4 = true := hs4
    have no : noOw [.pu x, .pu y, sl, s3, s4] [3, 4] = true := by simp only [noOw, List.all_cons, List.all_nil, q3, q4, Bool.and_self]
    simp only [List.map_cons, loopC, no, if_true]
    have b : blkF [3, 4] (CT1__law_like (g__law_like n)) (CP1__law_like (g__law_like n)) (CE1__law_like (g__law_like n)) (.tup [d, d]) [.pu x, .pu y, sl, s3, s4] = .ok (none, [.pu x, .pu y, sl, s3, s4]) := by simp [blkF, hd]
    simp only [b, Res.ne, Res.bind_ok, accD, t]
theorem like_seq {n k : Nat} {x : D} {ds : List D} (hx : dSeq x = .ok ds) (hz : fZip [x, x] = .ok (zipD ds ds)) (hn : fLen [x] = .ok (.int (ds.length : Int))) (s : g__law_sort [x] = .ok (.int (k : Int))) (hk : k = 4 ∨ k = 5) (hl : ds.length ≤ 1000000) (ih : ∀ d ∈ ds, g__law_like n [d, d] = .ok (.bl true)) : g__law_like (n + 1) [x, x] = .ok (.bl true) := by
  have e0 : dEq (.lst []) (.lst []) = .ok (.bl true) := by rfl
  have i1 : dIn false (.int (k : Int)) (.tup [.int 4, .int 5]) = .ok (.bl true) := by
    rcases hk with rfl | rfl <;> rfl
  have k6 : ¬ (k : Int) = 6 := by omega
  have t := like_all (n := n) (x := x) (y := x) (s3 := .em) (s4 := .em) rfl rfl ds ih (.pu (.int (k : Int)))
  have src : CS1__law_like (g__law_like n) [.pu x, .pu x, .pu (.int (k : Int)), .em, .em] = .ok (zipD ds ds, [.pu x, .pu x, .pu (.int (k : Int)), .em, .em]) :=
    iCall_ok (g := fZip) (fs := aCons (eV 0) (aCons (eV 1) aNil)) (ds := [x, x]) (by simp) hz
  have cm : eComp [3, 4] (CS1__law_like (g__law_like n)) (CT1__law_like (g__law_like n)) (CP1__law_like (g__law_like n)) (CE1__law_like (g__law_like n)) [.pu x, .pu x, .pu (.int (k : Int)), .em, .em] = .ok ([], [.pu x, .pu x, .pu (.int (k : Int)), .em, .em]) := by
    unfold eComp
    rw [src, zip_self]
    simp only [Res.bind_ok, List.length_map]
    rw [if_pos hl, t]
  show outRes (b__law_like (g__law_like n) (startE 5 [x, x])) = _
  have st : startE 5 [x, x] = [.pu x, .pu x, .em, .em, .em] := rfl
  rw [st]
  unfold b__law_like
  refine out_seq (ε1 := [.pu x, .pu x, .pu (.int (k : Int)), .em, .em]) (by simp [s]) ?_
  refine out_seq (ε1 := [.pu x, .pu x, .pu (.int (k : Int)), .em, .em]) (by simp [s, dNe_int, dEq_int, k6]) ?_
  have e1 : eOp dEq (eCB fLen (aCons (eV 0) aNil)) (eCB fLen (aCons (eV 1) aNil)) [.pu x, .pu x, .pu (.int (k : Int)), .em, .em] = .ok (.bl true, [.pu x, .pu x, .pu (.int (k : Int)), .em, .em]) := by simp [hn, dEq_int, -fLen]
  have e2 : eOp dEq (eL (eComp [3, 4] (CS1__law_like (g__law_like n)) (CT1__law_like (g__law_like n)) (CP1__law_like (g__law_like n)) (CE1__law_like (g__law_like n)))) (eL aNil) [.pu x, .pu x, .pu (.int (k : Int)), .em, .em] = .ok (.bl true, [.pu x, .pu x, .pu (.int (k : Int)), .em, .em]) := by
    simp only [eOp, eL, cm, Res.bind_ok, aNil, e0]
  have e3 : sIf (bOf (eOp (dIn false) (eV 2) (eTup (aCons (eC (.int 4)) (aCons (eC (.int 5)) aNil))))) (sRet (eAnd (eOp dEq (eCB fLen (aCons (eV 0) aNil)) (eCB fLen (aCons (eV 1) aNil))) (eOp dEq (eL (eComp [3, 4] (CS1__law_like (g__law_like n)) (CT1__law_like (g__law_like n)) (CP1__law_like (g__law_like n)) (CE1__law_like (g__law_like n)))) (eL aNil)))) (fun ε => .nx ε) [.pu x, .pu x, .pu (.int (k : Int)), .em, .em] = .rt (.bl true) [.pu x, .pu x, .pu (.int (k : Int)), .em, .em] := by
    have c0 : bOf (eOp (dIn false) (eV 2) (eTup (aCons (eC (.int 4)) (aCons (eC (.int 5)) aNil)))) [.pu x, .pu x, .pu (.int (k : Int)), .em, .em] = .ok (true, [.pu x, .pu x, .pu (.int (k : Int)), .em, .em]) := by simp [i1]
    simp only [sIf, c0, Res.out, if_true, sRet, eAnd, e1, e2, Res.bind_ok, asB]
  simp only [sSeq, e3, Out.andThen, outRes]
theorem like_ok {n : Nat} {d : D} (h : Plain n d) : g__law_like n [d, d] = .ok (.bl true) := by
  induction h with
  | int n a => exact like_int n a
  | bl n a => exact like_bl n a
  | tup n ds h hl ih => exact like_seq (k := 4) rfl rfl rfl (by rfl) (.inl rfl) hl ih
  | lst n ds h hl ih => exact like_seq (k := 5) rfl rfl rfl (by rfl) (.inr rfl) hl ih

theorem like_non (n : Nat) : g__law_like (n + 1) [.non, .non] = .ok (.bl true) := by
  have s : g__law_sort [.non] = .ok (.int 0) := by rfl
  have i1 : dIn false (.int 0) (.tup [.int 4, .int 5]) = .ok (.bl false) := by rfl
  have e : dEq .non .non = .ok (.bl true) := by rfl
  show outRes (b__law_like (g__law_like n) (startE 5 [.non, .non])) = _
  simp [b__law_like, s, i1, dNe_int, dEq_int, e]
theorem plain_rd (n : Nat) (q : Rat) : Plain (n + 2) (rd q) := .tup _ _ (fun d hd => by
  rcases List.mem_cons.mp hd with rfl | h
  · exact .int _ _
  · rcases List.mem_cons.mp h with rfl | h
    · exact .int _ _
    · cases h) (by simp)
theorem ne_rd (q : Rat) : dNe (rd q) (rd q) = .ok (.bl false) := by
  simp [dNe, rd, D.okq, D.okqL, dEqv, D.pyd, D.pydL, PyData.eqv, PyData.eqvAll]
theorem eq_rd (q : Rat) : dEq (rd q) (rd q) = .ok (.bl true) := by
  simp [dEq, rd, D.okq, D.okqL, dEqv, D.pyd, D.pydL, PyData.eqv, PyData.eqvAll]
theorem natP {b : Nat} (hb : 0 < b) : (0 : Rat) < (b : Rat) := by
  have : ((0 : Nat) : Rat) < (b : Rat) := Rat.natCast_lt_natCast.mpr hb
  simpa using this
theorem nat_ne {m : Nat} (h : 1 ≤ m) : (m : Rat) ≠ 0 := fun z => by have := Rat.natCast_eq_zero_iff.mp z; omega
theorem cup_ok (ns : List Int) (hl : ns.length ≤ 63) : ∃ a b : Int, g__law_cup [.scr ns] = .ok [.int a, .int b] := by
  have hx : ∃ v : Int, L2.atI (ns.map D.int ++ [D.int 0]) 0 = some (.int v) := by
    cases ns with
    | nil => exact ⟨0, rfl⟩
    | cons n ns => exact ⟨n, L2.atI_nat (j := 0) (by simp)⟩
  obtain ⟨v, hv⟩ := hx
  have z : ns.length + 1 ≤ 1000000 := by omega
  have m : ∀ c : Int, mulOk c 467 = true := fun c => by simp [mulOk]; exact .inr (by decide)
  have d1 : divOk 223 = true := by decide
  have p1 : dPow (.int 10) (.int 18) = .ok (.int 1000000000000000000) := by rfl
  have f1 : fList [.scr ns] = .ok (ns.map D.int) := rfl
  obtain ⟨c, hc⟩ : ∃ c : Int, fAbs [.int v] = .ok (.int c) := ⟨_, rfl⟩
  have e1 : b1__law_cup (startE 2 [.scr ns]) = .nx [.pu (.scr ns), .pu (.int c)] := by simp [b1__law_cup, eCN, f1, dCat, z, hv, hc, -s_atI, -s_ixN]
  by_cases h : (1000000000000000000 : Int) ≤ c
  · have e2 : b2__law_cup [.pu (.scr ns), .pu (.int c)] = .ok ([.int (c.fdiv 223), .int ((c * 467 + 7151).fmod 99901 + 331)], [.pu (.scr ns), .pu (.int c)]) := by simp [b2__law_cup, dMul, m, p1, dDiv, d1, dMod, fInt, h]
    exact ⟨_, _, by simp only [g__law_cup, e1, e2, Res.bind_ok]; rfl⟩
  · have e2 : b2__law_cup [.pu (.scr ns), .pu (.int c)] = .ok ([.int 0, .int ((c * 467 + 7151).fmod 99901 + 331)], [.pu (.scr ns), .pu (.int c)]) := by simp [b2__law_cup, dMul, m, p1, dDiv, d1, dMod, fInt, h]
    exact ⟨_, _, by simp only [g__law_cup, e1, e2, Res.bind_ok]; rfl⟩
theorem roll_ok (a b M : Int) (many : Nat) (hM : M = (many : Int)) (h1 : 1 ≤ many) (h2 : many < 2 ^ 60) : ∃ (r : Nat) (a' b' : Int), r < many ∧ g__law_roll [.int a, .int b] [.int M] = .ok (.int (r : Int), [.int a', .int b']) := by
  subst hM
  have hm : (many : Int) ≠ 0 := by omega
  have hm' : many ≠ 0 := by omega
  have hd : divOk (many : Int) = true := by
    simp only [divOk, Int.natAbs_natCast, decide_eq_true_eq]
    refine ⟨hm, ?_⟩
    rw [Nat.log2_lt hm']
    exact Nat.lt_trans h2 (Nat.pow_lt_pow_right (by decide) (by decide))
  have d23 : divOk 23 = true := by decide
  have m : ∀ c : Int, mulOk c 103 = true := fun c => by simp [mulOk]; exact .inr (by decide)
  have fm : ∀ x : Int, ∃ r : Nat, r < many ∧ x.fmod (many : Int) = (r : Int) := fun x => by
    refine ⟨(x.fmod (many : Int)).toNat, ?_, ?_⟩
    · have g1 := Int.fmod_lt_of_pos x (show (0 : Int) < (many : Int) by omega)
      have g2 := Int.fmod_nonneg_of_pos x (show (0 : Int) < (many : Int) by omega)
      omega
    · have g2 := Int.fmod_nonneg_of_pos x (show (0 : Int) < (many : Int) by omega)
      omega
  by_cases h : 0 < a
  · obtain ⟨r, hr, e⟩ := fm a
    refine ⟨r, a.fdiv many, b, hr, ?_⟩
    simp [g__law_roll, b__law_roll, outC, startC, h, dMod, fInt, hm, hm', e, sSetIx, dDiv, hd]
  · obtain ⟨r, hr, e⟩ := fm (((b * 103 + 1823).fmod 99901).fdiv 23)
    refine ⟨r, a, (b * 103 + 1823).fmod 99901, hr, ?_⟩
    simp [g__law_roll, b__law_roll, outC, startC, h, dMod, fInt, hm, hm', e, sSetIx, dDiv, d23, dMul, m]
theorem bd_of {t b : Nat} (hb : 0 < b) : Bd (((t : Int) : Rat) / ((b : Int) : Rat)) b t := by
  refine ⟨hb, (t : Int), ?_, by omega⟩
  have n : ((b : Nat) : Rat) ≠ 0 := nat_ne hb
  rw [Rat.intCast_natCast, Rat.intCast_natCast]
  grind
theorem of_nn {t b : Nat} (hb : 0 < b) : 0 ≤ ((t : Int) : Rat) / ((b : Int) : Rat) := by
  rw [Rat.intCast_natCast, Rat.intCast_natCast, ← Rat.not_lt, Rat.div_lt_iff (natP hb), Rat.zero_mul, Rat.not_lt]
  exact Rat.natCast_nonneg

theorem callC_ok {i : Nat} {g : List D → List D → Res (D × List D)} {fs : Ev → Res (List D × Ev)} {ε ε1 ε2 : Ev} {ds cs cs0 cs' : List D} {d : D} (h0 : getOw ε i = .ok cs0) (h : fs ε = .ok (ds, ε1)) (h1 : getOw ε1 i = .ok cs) (h2 : g cs ds = .ok (d, cs')) (h3 : ε1.set i (.ow cs') = ε2) : eCallC i g fs ε = .ok (d, ε2) := by
  simp only [eCallC, h0, h, h1, h2, h3, Res.bind_ok, Res.ne]
theorem outC_seq {f g : Ev → Out} {ε ε1 : Ev} {r : Res (D × List D)} (h : f ε = .nx ε1) (h2 : outC (g ε1) = r) : outC (sSeq f g ε) = r := by rw [sSeq_nx h]; exact h2
theorem outC_ret {f : Ev → Res (D × Ev)} {ε ε1 : Ev} {d : D} {cs : List D} (h : f ε = .ok (d, ε1)) (h2 : getOw ε1 0 = .ok cs) : outC (sRet f ε) = .ok (d, cs) := by
  rw [sRet_v h]
  simp only [outC, h2, Res.bind_ok]
/-! draws -/
theorem bIxT_all : ∀ n, n < 60 → bCount none none n = n ∧ bIxT none none n = (List.range n).reverse := by decide +kernel
/-! values of polynomials -/
theorem val_loop {c : Rat} {x0 : Slot} (hd : c.den ≤ 60) (hn : c.num.natAbs ≤ 60) : ∀ (R : List Int) (i : Nat) (t : Int) (b : Nat) (j : Slot), (∀ x ∈ R, x.natAbs ≤ 1000) → i + R.length ≤ 8 → t.natAbs ≤ 2 ^ (20 * i) → 0 < b → b ≤ 2 ^ (6 * i) → ∃ (t' : Int) (b' : Nat) (j' : Slot),
    forF T1_value_at B1_value_at (R.map D.int) [x0, .pu (rd c), .pu (.int t), .pu (.int (b : Int)), j] = .nx [x0, .pu (rd c), .pu (.int t'), .pu (.int (b' : Int)), j'] ∧ 0 < b' ∧ b' ≤ 2 ^ (6 * (i + R.length)) ∧ (t' : Rat) / (b' : Rat) = R.foldl (fun (a : Rat) (p : Int) => (p : Rat) + c * a) ((t : Rat) / (b : Rat))
  | [], i, t, b, j, _, _, ht, hb, hb2 => ⟨t, b, j, rfl, hb, hb2, rfl⟩
  | p :: R, i, t, b, j, hp, hi, ht, hb, hb2 => by
    rw [List.length_cons] at hi
    have p1 := hp p (by simp)
    have b0 : 2 ^ (20 * i) ≤ 2 ^ 160 := Nat.pow_le_pow_right (by decide) (by omega)
    have b1 : 2 ^ (6 * i) ≤ 2 ^ 48 := Nat.pow_le_pow_right (by decide) (by omega)
    have cb : (c.den : Int).natAbs ≤ 60 := by rw [Int.natAbs_natCast]; exact hd
    have l1 : (2 : Nat) ^ 160 < 2 ^ 420 := by decide
    have l2 : (2 : Nat) ^ 48 < 2 ^ 420 := by decide
    have l3 : (1000 : Nat) < 2 ^ 420 := by decide
    have l4 : (1000 : Nat) * 2 ^ 48 < 2 ^ 420 := by decide
    have m1 : dMul (.int t) (.int c.num) = .ok (.int (t * c.num)) := by simp [dMul, mulOk420 (show t.natAbs < 2 ^ 420 by omega) (show c.num.natAbs < 2 ^ 420 by omega)]
    have m2 : dMul (.int p) (.int (b : Int)) = .ok (.int (p * (b : Int))) := by simp [dMul, mulOk420 (show p.natAbs < 2 ^ 420 by omega) (show (b : Int).natAbs < 2 ^ 420 by rw [Int.natAbs_natCast]; omega)]
    have pb : (p * (b : Int)).natAbs ≤ 1000 * 2 ^ (6 * i) := by
      rw [Int.natAbs_mul, Int.natAbs_natCast]
      exact Nat.mul_le_mul p1 hb2
    have pb2 : (p * (b : Int)).natAbs ≤ 1000 * 2 ^ 48 := Nat.le_trans pb (Nat.mul_le_mul_left _ b1)
    have m3 : dMul (.int (p * (b : Int))) (.int (c.den : Int)) = .ok (.int (p * (b : Int) * (c.den : Int))) := by simp [dMul, mulOk420 (show (p * (b : Int)).natAbs < 2 ^ 420 by omega) (show (c.den : Int).natAbs < 2 ^ 420 by omega)]
    have m4 : dMul (.int (b : Int)) (.int (c.den : Int)) = .ok (.int ((b * c.den : Nat) : Int)) := by
      rw [Int.natCast_mul]
      simp [dMul, mulOk420 (show (b : Int).natAbs < 2 ^ 420 by rw [Int.natAbs_natCast]; omega) (show (c.den : Int).natAbs < 2 ^ 420 by omega)]
    have t2 : (t * c.num + p * (b : Int) * (c.den : Int)).natAbs ≤ 2 ^ (20 * (i + 1)) := by
      have q1 : (t * c.num).natAbs ≤ 2 ^ (20 * i) * 60 := by rw [Int.natAbs_mul]; exact Nat.mul_le_mul ht hn
      have q2 : (p * (b : Int) * (c.den : Int)).natAbs ≤ 1000 * 2 ^ (6 * i) * 60 := by rw [Int.natAbs_mul]; exact Nat.mul_le_mul pb cb
      have q3 : 2 ^ (6 * i) ≤ 2 ^ (20 * i) := Nat.pow_le_pow_right (by decide) (by omega)
      have q4 : 2 ^ (20 * (i + 1)) = 2 ^ (20 * i) * 2 ^ 20 := by rw [← Nat.pow_add]; congr 1
      have q5 : (2 : Nat) ^ 20 = 1048576 := by decide
      rw [q4, q5]
      omega
    have bp : 0 < b * c.den := Nat.mul_pos hb c.den_pos
    have bb : b * c.den ≤ 2 ^ (6 * (i + 1)) := by
      have q4 : 2 ^ (6 * (i + 1)) = 2 ^ (6 * i) * 2 ^ 6 := by rw [← Nat.pow_add]; congr 1
      rw [q4]
      exact Nat.mul_le_mul hb2 (by omega)
    obtain ⟨t', b', j', e, hb', hb2', ev'⟩ := val_loop (x0 := x0) hd hn R (i + 1) (t * c.num + p * (b : Int) * (c.den : Int)) (b * c.den) (.pu (.int p)) (fun x hx => hp x (by simp [hx])) (by omega) t2 bp bb
    refine ⟨t', b', j', ?_, hb', by rw [List.length_cons, show i + (R.length + 1) = i + 1 + R.length by omega]; exact hb2', ?_⟩
    · have t1 : T1_value_at (.int p) [x0, .pu (rd c), .pu (.int t), .pu (.int (b : Int)), j] = .ok [x0, .pu (rd c), .pu (.int t), .pu (.int (b : Int)), .pu (.int p)] := rfl
      have bd1 : B1_value_at [x0, .pu (rd c), .pu (.int t), .pu (.int (b : Int)), .pu (.int p)] = .nx [x0, .pu (rd c), .pu (.int (t * c.num + p * (b : Int) * (c.den : Int))), .pu (.int ((b * c.den : Nat) : Int)), .pu (.int p)] := by
        let E : Ev := [x0, .pu (rd c), .pu (.int t), .pu (.int (b : Int)), .pu (.int p)]
        have s1 : slP (eOp dAdd (eOp dMul (eV 2) (eOp dIx (eV 1) (eC (.int 0)))) (eOp dMul (eOp dMul (eV 4) (eV 3)) (eOp dIx (eV 1) (eC (.int 1))))) E = .ok (.pu (.int (t * c.num + p * (b : Int) * (c.den : Int))), E) := by
          have := eOp_ok (op := dAdd) (eOp_ok (op := dMul) (fa := eV 2) (fb := eOp dIx (eV 1) (eC (.int 0))) (ε := E) (ε1 := E) (ε2 := E) (by rfl) (by rfl) m1) (eOp_ok (op := dMul) (fa := eOp dMul (eV 4) (eV 3)) (fb := eOp dIx (eV 1) (eC (.int 1))) (ε1 := E) (ε2 := E) (eOp_ok (by rfl) (by rfl) m2) (by rfl) m3) (show dAdd (.int (t * c.num)) (.int (p * (b : Int) * (c.den : Int))) = .ok (.int (t * c.num + p * (b : Int) * (c.den : Int))) from rfl)
          simp only [slP, this, Res.bind_ok]
        have s2 : slP (eOp dMul (eV 3) (eOp dIx (eV 1) (eC (.int 1)))) E = .ok (.pu (.int ((b * c.den : Nat) : Int)), E) := by
          have := eOp_ok (op := dMul) (fa := eV 3) (fb := eOp dIx (eV 1) (eC (.int 1))) (ε := E) (ε1 := E) (ε2 := E) (by rfl) (by rfl) m4
          simp only [slP, this, Res.bind_ok]
        show sPar2 2 3 _ _ E = _
        simp only [sPar2, s1, s2, Res.out]
        rfl
      rw [List.map_cons]
      simp only [forF, t1, Res.ne, bd1, e]
    · rw [ev', List.foldl_cons]
      congr 1
      have n1 := rat_nd c
      have n2 := den_ne c
      have n3 : (b : Rat) ≠ 0 := nat_ne hb
      rw [Rat.intCast_add, Rat.intCast_mul, Rat.intCast_mul, Rat.intCast_mul, Rat.intCast_natCast, Rat.intCast_natCast, Rat.natCast_mul, n1]
      grind
theorem ev_fold (P : List Int) (c : Rat) : P.reverse.foldl (fun (a : Rat) (p : Int) => (p : Rat) + c * a) 0 = ev P c := by
  unfold ev
  rw [List.foldl_reverse]
theorem value_ok {P : List Int} {c : Rat} (hc : Ch c) (isp : g_need_polynomial [.tup (P.map .int)] = .ok .non) (hl : P.length ≤ 8) (hs : ∀ x ∈ P, x.natAbs ≤ 1000) : g_value_at [.tup (P.map .int), rd c] = .ok (rd (ev P c)) := by
  have h1 := bd_small hc.b
  have ip := isp_ok (q := c) (by omega) (by omega)
  obtain ⟨t', b', j', e, hb', hb2, ev'⟩ := val_loop (x0 := .pu (.tup (P.map .int))) (c := c) h1.1 h1.2 P.reverse 0 0 1 .em (fun x hx => hs x (List.mem_reverse.mp hx)) (by rw [List.length_reverse]; omega) (by simp) (by decide) (by simp)
  rw [show ((0 : Int) : Rat) / ((1 : Nat) : Rat) = 0 by decide +kernel, ev_fold] at ev'
  have b48 : b' < 2 ^ 840 := by
    rw [List.length_reverse] at hb2
    have : 2 ^ (6 * (0 + P.length)) ≤ 2 ^ 48 := Nat.pow_le_pow_right (by decide) (by omega)
    have l : (2 : Nat) ^ 48 < 2 ^ 840 := by decide
    omega
  have lo := lowest_ok (t := t') (b := (b' : Int)) (by omega) (by rw [Int.natAbs_natCast]; exact b48)
  rw [Rat.intCast_natCast, ev'] at lo
  let E : Slot → Slot → Slot → Ev := fun a b c' => [.pu (.tup (P.map .int)), .pu (rd c), a, b, c']
  have bk : dBack (.tup (P.map .int)) none none = .ok (.tup (P.reverse.map .int)) := by
    have e := bIxT_all (P.map D.int).length (by rw [List.length_map]; omega)
    simp only [dBack, e.1, e.2]
    rw [if_pos (by rw [List.length_map]; omega), pick_rev, List.map_reverse]
  have st : startE 5 [.tup (P.map .int), rd c] = E .em .em .em := rfl
  show outRes (b_value_at (startE 5 [.tup (P.map .int), rd c])) = _
  rw [st]
  unfold b_value_at
  refine out_seq (ε1 := E .em .em .em) (drop_ok (eCB_ok (by rfl) isp)) ?_
  refine out_seq (ε1 := E .em .em .em) (sIf_f (bNot_ok (c := true) (bOf_ok (eCB_ok (by rfl) ip))) rfl) ?_
  refine out_seq (ε1 := E (.pu (.int 0)) (.pu (.int 1)) .em) (by rfl) ?_
  refine out_seq (ε1 := E (.pu (.int t')) (.pu (.int (b' : Int))) j') (sFor_ok (ds := P.reverse.map .int) (ε1 := E (.pu (.int 0)) (.pu (.int 1)) .em) ?_ e) ?_
  · have v0 : eV 0 (E (.pu (.int 0)) (.pu (.int 1)) .em) = .ok (.tup (P.map .int), E (.pu (.int 0)) (.pu (.int 1)) .em) := rfl
    simp only [S1_value_at, iSeq, eBack, v0, oN, Res.bind_ok, bk, dSeq]
  · exact out_ret (eCB_ok (by rfl) lo)
/-! lots -/
def lotD (l : List Nat) : D := .tup (l.map fun x : Nat => .int (x : Int))
theorem lots_ok : ∀ n : Nat, n ≤ 7 → g__law_lots [.int (n : Int)] = .ok (.lst ((lots n).map lotD)) := by
  intro n hn
  match n, hn with
  | 0, _ => kernel_rfl
  | 1, _ => kernel_rfl
  | 2, _ => kernel_rfl
  | 3, _ => kernel_rfl
  | 4, _ => kernel_rfl
  | 5, _ => kernel_rfl
  | 6, _ => kernel_rfl
  | 7, _ => kernel_rfl
theorem errors_ok : g__law_errors_right [] = .ok (.bl true) := by kernel_rfl
end W41
namespace W41
open PySem L2 PL
/-! chances of lots -/
theorem Ch.nums {c : Rat} (h : Ch c) : c.den ≤ 60 ∧ c.num.natAbs ≤ 60 ∧ ((c.den : Int) - c.num).natAbs ≤ 60 := by
  have a := bd_small h.b
  have b := h.nl
  have d := h.nh
  omega
theorem lot_loop {l : List Nat} {x0 : Slot} : ∀ (L : List Rat) (s i : Nat) (t : Int) (b : Nat) (z : Rat) (s4 s5 s6 : Slot), (∀ c ∈ L, Ch c) → i + L.length ≤ 12 → t.natAbs ≤ 2 ^ (6 * i) → 0 < b → b ≤ 2 ^ (6 * i) → (t : Rat) / (b : Rat) = z → ∃ (t' : Int) (b' : Nat) (t4 t5 t6 : Slot),
    forF T1__law_lot_chance B1__law_lot_chance (enumD s (L.map rd)) [x0, .pu (lotD l), .pu (.int t), .pu (.int (b : Int)), s4, s5, s6] = .nx [x0, .pu (lotD l), .pu (.int t'), .pu (.int (b' : Int)), t4, t5, t6] ∧ 0 < b' ∧ b' ≤ 2 ^ 72 ∧ (t' : Rat) / (b' : Rat) = pr l s L z
  | [], s, i, t, b, z, s4, s5, s6, _, hi, ht, hb, hb2, hz => ⟨t, b, s4, s5, s6, rfl, hb, Nat.le_trans hb2 (Nat.pow_le_pow_right (by decide) (by simp at hi; omega)), hz⟩
  | c :: L, s, i, t, b, z, s4, s5, s6, hc, hi, ht, hb, hb2, hz => by
    rw [List.length_cons] at hi
    obtain ⟨c1, c2, c3⟩ := (hc c (by simp)).nums
    have b1 : 2 ^ (6 * i) ≤ 2 ^ 72 := Nat.pow_le_pow_right (by decide) (by omega)
    have l2 : (2 : Nat) ^ 72 < 2 ^ 420 := by decide
    have q4 : 2 ^ (6 * (i + 1)) = 2 ^ (6 * i) * 2 ^ 6 := by rw [← Nat.pow_add]; congr 1
    have t420 : t.natAbs < 2 ^ 420 := by omega
    have m1 : dMul (.int t) (.int c.num) = .ok (.int (t * c.num)) := by simp [dMul, mulOk420 t420 (show c.num.natAbs < 2 ^ 420 by omega)]
    have m2 : dMul (.int t) (.int ((c.den : Int) - c.num)) = .ok (.int (t * ((c.den : Int) - c.num))) := by simp [dMul, mulOk420 t420 (show ((c.den : Int) - c.num).natAbs < 2 ^ 420 by omega)]
    have m4 : dMul (.int (b : Int)) (.int (c.den : Int)) = .ok (.int ((b * c.den : Nat) : Int)) := by
      rw [Int.natCast_mul]
      simp [dMul, mulOk420 (show (b : Int).natAbs < 2 ^ 420 by rw [Int.natAbs_natCast]; omega) (show (c.den : Int).natAbs < 2 ^ 420 by rw [Int.natAbs_natCast]; omega)]
    have bp : 0 < b * c.den := Nat.mul_pos hb c.den_pos
    have bb : b * c.den ≤ 2 ^ (6 * (i + 1)) := by
      rw [q4]
      exact Nat.mul_le_mul hb2 (by omega)
    let E : Ev := [x0, .pu (lotD l), .pu (.int t), .pu (.int (b : Int)), .pu (.int (s : Int)), .pu (.int c.num), .pu (.int (c.den : Int))]
    have t1 : T1__law_lot_chance (.tup [.int (s : Int), rd c]) [x0, .pu (lotD l), .pu (.int t), .pu (.int (b : Int)), s4, s5, s6] = .ok E := rfl
    have tst : bOf (eOp (dIn false) (eV 4) (eV 1)) E = .ok (decide (s ∈ l), E) := bOf_ok (eOp_ok (by rfl) (by rfl) (in_nats false s l))
    have s2 : slP (eOp dMul (eV 3) (eV 6)) E = .ok (.pu (.int ((b * c.den : Nat) : Int)), E) := by
      have := eOp_ok (op := dMul) (fa := eV 3) (fb := eV 6) (ε := E) (ε1 := E) (ε2 := E) (by rfl) (by rfl) m4
      simp only [slP, this, Res.bind_ok]
    have n1 := rat_nd c
    have n2 := den_ne c
    have n3 : (b : Rat) ≠ 0 := nat_ne hb
    have key : ∃ w : Int, w.natAbs ≤ 60 ∧ dMul (.int t) (.int w) = .ok (.int (t * w)) ∧ eIf (bOf (eOp (dIn false) (eV 4) (eV 1))) (eV 5) (eOp dSub (eV 6) (eV 5)) E = .ok (.int w, E) ∧ (w : Rat) = (if s ∈ l then c else 1 - c) * (c.den : Rat) := by
      by_cases h : s ∈ l
      · rw [decide_eq_true h] at tst
        exact ⟨c.num, c2, m1, eIf_t tst (by rfl), by rw [if_pos h, n1]⟩
      · rw [decide_eq_false h] at tst
        refine ⟨(c.den : Int) - c.num, c3, m2, eIf_f tst (by rfl), ?_⟩
        rw [if_neg h, Rat.intCast_sub, Rat.intCast_natCast, n1]
        grind
    obtain ⟨w, w1, w2, w3, w4⟩ := key
    have tw : (t * w).natAbs ≤ 2 ^ (6 * (i + 1)) := by
      rw [Int.natAbs_mul, q4]
      exact Nat.mul_le_mul ht (by omega)
    have hz' : ((t * w : Int) : Rat) / ((b * c.den : Nat) : Rat) = z * (if s ∈ l then c else 1 - c) := by
      rw [Rat.intCast_mul, Rat.natCast_mul, w4, ← hz]
      generalize (if s ∈ l then c else 1 - c) = v
      grind
    obtain ⟨t', b', t4, t5, t6, e, hb', hb2', ev'⟩ := lot_loop (l := l) (x0 := x0) L (s + 1) (i + 1) (t * w) (b * c.den) (z * (if s ∈ l then c else 1 - c)) (.pu (.int (s : Int))) (.pu (.int c.num)) (.pu (.int (c.den : Int))) (fun d hd => hc d (by simp [hd])) (by omega) tw bp bb hz'
    refine ⟨t', b', t4, t5, t6, ?_, hb', hb2', ev'⟩
    have s1 : slP (eOp dMul (eV 2) (eIf (bOf (eOp (dIn false) (eV 4) (eV 1))) (eV 5) (eOp dSub (eV 6) (eV 5)))) E = .ok (.pu (.int (t * w)), E) := by
      have := eOp_ok (op := dMul) (fa := eV 2) (fb := eIf (bOf (eOp (dIn false) (eV 4) (eV 1))) (eV 5) (eOp dSub (eV 6) (eV 5))) (ε := E) (ε1 := E) (ε2 := E) (by rfl) w3 w2
      simp only [slP, this, Res.bind_ok]
    have bd1 : B1__law_lot_chance E = .nx [x0, .pu (lotD l), .pu (.int (t * w)), .pu (.int ((b * c.den : Nat) : Int)), .pu (.int (s : Int)), .pu (.int c.num), .pu (.int (c.den : Int))] := by
      show sPar2 2 3 _ _ E = _
      simp only [sPar2, s1, s2, Res.out]
      rfl
    rw [List.map_cons]
    simp only [enumD, forF, t1, Res.ne, bd1, e]
theorem lot_ok {L : List Rat} (l : List Nat) (hc : ∀ c ∈ L, Ch c) (hn : L.length ≤ 12) : g__law_lot_chance [ps L, lotD l] = .ok (rd (pr l 0 L 1)) := by
  obtain ⟨t', b', t4, t5, t6, e, hb', hb2, ev'⟩ := lot_loop (l := l) (x0 := .pu (ps L)) L 0 0 1 1 1 .em .em .em hc (by omega) (by decide) (by decide) (by decide) (by decide +kernel)
  have lo := low_ok (t := t') (b := (b' : Int)) (by omega) (by rw [Int.natAbs_natCast]; exact Nat.lt_of_le_of_lt hb2 (by decide))
  rw [Rat.intCast_natCast, ev'] at lo
  let E : Slot → Slot → Slot → Slot → Slot → Ev := fun a b c d e => [.pu (ps L), .pu (lotD l), a, b, c, d, e]
  have st : startE 7 [ps L, lotD l] = E .em .em .em .em .em := rfl
  show outRes (b__law_lot_chance (startE 7 [ps L, lotD l])) = _
  rw [st]
  unfold b__law_lot_chance
  refine out_seq (ε1 := E (.pu (.int 1)) (.pu (.int 1)) .em .em .em) (by rfl) ?_
  refine out_seq (ε1 := E (.pu (.int t')) (.pu (.int (b' : Int))) t4 t5 t6) (sFor_ok (ds := enumD 0 (L.map rd)) (ε1 := E (.pu (.int 1)) (.pu (.int 1)) .em .em .em) rfl e) ?_
  exact out_ret (eCB_ok (by rfl) lo)
/-! runs in the law -/
theorem comp_bool {ι : Type} {vs : List Nat} {src : Ev → Res (List D × Ev)} {tgt : D → Ev → Res Ev} {test : Ev → Res (Bool × Ev)} {elt : Ev → Res (D × Ev)} (it out : ι → D) (p : ι → Bool) (E1 : ι → Ev) {xs : List ι} {ε : Ev} (hs : src ε = .ok (xs.map it, ε)) (hl : xs.length ≤ 1000000) (hn : noOw ε vs = true)
    (ht : ∀ x ∈ xs, tgt (it x) (wipeE ε vs) = .ok (E1 x)) (tst : ∀ x ∈ xs, test (E1 x) = .ok (p x, E1 x)) (he : ∀ x ∈ xs, elt (E1 x) = .ok (out x, E1 x)) (hb : ∀ x ∈ xs, backE ε (E1 x) vs = ε) : eComp vs src tgt test elt ε = .ok ((xs.filter p).map out, ε) :=
  eComp_filter it p out hs rfl hl hn fun x hx => by
    by_cases h : p x = true
    · rw [blk_yes (ht x hx) (by rw [tst x hx, h]) (he x hx) (hb x hx)]
      simp [h]
    · have h' : p x = false := by simpa using h
      rw [blk_no (ht x hx) (by rw [tst x hx, h']) (hb x hx)]
      simp [h']
theorem ones_nil {α : Type} (xs : List α) : dEq (.lst (xs.map fun _ => D.int 1)) (.lst []) = .ok (.bl xs.isEmpty) := by
  have o : D.okq 20 (.lst (xs.map fun _ => D.int 1)) = true := by
    show D.okqL 19 (xs.map fun _ => D.int 1) = true
    exact okq_I (List.all_eq_true.mpr fun d hd => by
      obtain ⟨_, _, rfl⟩ := List.mem_map.mp hd
      rfl)
  have o2 : D.okq 20 (.lst []) = true := rfl
  simp only [dEq, o, o2, Bool.and_self, if_true, dEqv, D.pyd]
  cases xs with
  | nil => rfl
  | cons x xs => simp [D.pydL, PyData.eqv, PyData.eqvAll]
theorem bl_get {n i : Nat} {l : List Nat} (h : i < n) : (bl n l).getD i true = decide (i ∈ l) := by
  unfold bl
  rw [List.getD_eq_getElem?_getD, List.getElem?_map, List.getElem?_range h]
  rfl
def HR (l : List Nat) (n k : Nat) (rg : Bool) (s4 s5 : Slot) : Ev := [.pu (lotD l), .pu (.int (n : Int)), .pu (.int (k : Int)), .pu (.bl rg), s4, s5]
theorem start_ok {l : List Nat} {n k s : Nat} {rg : Bool} (hk : k ≤ 1000) (h : ∀ t, t < k → wr n (s + t) < n) : eOp dEq (eL (eComp [5] CS1__law_has_run CT1__law_has_run CP1__law_has_run CE1__law_has_run)) (eL aNil) (HR l n k rg (.pu (.int (s : Int))) .em) = .ok (.bl (runAt (bl n l) k s), HR l n k rg (.pu (.int (s : Int))) .em) := by
  let E := HR l n k rg (.pu (.int (s : Int))) .em
  let E1 : Nat → Ev := fun t => HR l n k rg (.pu (.int (s : Int))) (.pu (.int (t : Int)))
  have idx : ∀ t, eIf (bOf (eOp dLt (eOp dAdd (eV 4) (eV 5)) (eV 1))) (eOp dAdd (eV 4) (eV 5)) (eOp dSub (eOp dAdd (eV 4) (eV 5)) (eV 1)) (E1 t) = .ok (.int ((wr n (s + t) : Nat) : Int), E1 t) := fun t => by
    have ad : eOp dAdd (eV 4) (eV 5) (E1 t) = .ok (.int ((s : Int) + (t : Int)), E1 t) := rfl
    have lt : dLt (.int ((s : Int) + (t : Int))) (.int (n : Int)) = .ok (.bl (decide (s + t < n))) := by
      show Res.ok (D.bl (decide ((s : Int) + (t : Int) < (n : Int)))) = _
      congr 2
      exact decide_eq_decide.mpr (by omega)
    have tst : bOf (eOp dLt (eOp dAdd (eV 4) (eV 5)) (eV 1)) (E1 t) = .ok (decide (s + t < n), E1 t) := bOf_ok (eOp_ok ad (by rfl) lt)
    unfold wr
    by_cases h : s + t < n
    · rw [decide_eq_true h] at tst
      rw [if_pos h, show ((s + t : Nat) : Int) = (s : Int) + (t : Int) by omega]
      exact eIf_t tst ad
    · rw [decide_eq_false h] at tst
      rw [if_neg h, show ((s + t - n : Nat) : Int) = (s : Int) + (t : Int) - (n : Int) by omega]
      exact eIf_f tst (eOp_ok ad (by rfl) (by rfl))
  have cm := comp_bool (vs := [5]) (src := CS1__law_has_run) (tgt := CT1__law_has_run) (test := CP1__law_has_run) (elt := CE1__law_has_run) (ε := E) (fun t : Nat => D.int (t : Int)) (fun _ => D.int 1) (fun t => decide (wr n (s + t) ∈ l)) E1 (xs := List.range k) (iCall_ok (g := fRange) (ds := [.int (k : Int)]) (by rfl) (fRange1 rfl (by omega))) (by rw [List.length_range]; omega) rfl (fun _ _ => rfl)
    (fun t _ => bOf_ok (eOp_ok (idx t) (by rfl) (in_nats false (wr n (s + t)) l))) (fun _ _ => rfl) (fun _ _ => rfl)
  have e : ((List.range k).filter fun t => decide (wr n (s + t) ∈ l)).isEmpty = runAt (bl n l) k s := by
    unfold runAt
    rw [bl_len]
    rw [Bool.eq_iff_iff, List.isEmpty_iff, List.filter_eq_nil_iff, List.all_eq_true]
    refine forall_congr' fun t => forall_congr' fun ht => ?_
    rw [bl_get (h t (List.mem_range.mp ht))]
    simp
  have q := ones_nil ((List.range k).filter fun t => decide (wr n (s + t) ∈ l))
  rw [e] at q
  exact eOp_ok (eL_ok cm) (by rfl) q
theorem run_loop {l : List Nat} {n k : Nat} {rg : Bool} (hk : k ≤ 1000) : ∀ (m s : Nat) (s4 : Slot), (∀ u, u < s + m → ∀ t, t < k → wr n (u + t) < n) →
    (∃ ε', forF T1__law_has_run B1__law_has_run ((List.range' s m).map fun i : Nat => D.int (i : Int)) (HR l n k rg s4 .em) = if ((List.range' s m).any fun u => runAt (bl n l) k u) = true then .rt (.bl true) ε' else .nx ε')
  | 0, s, s4, _ => ⟨HR l n k rg s4 .em, rfl⟩
  | m + 1, s, s4, h => by
    obtain ⟨ε', e⟩ := run_loop (l := l) (rg := rg) hk m (s + 1) (.pu (.int (s : Int))) (fun u hu => h u (by omega))
    have t1 : T1__law_has_run (.int (s : Int)) (HR l n k rg s4 .em) = .ok (HR l n k rg (.pu (.int (s : Int))) .em) := rfl
    have q := start_ok (l := l) (rg := rg) (s := s) hk (h s (by omega))
    rw [List.range'_succ, List.map_cons, List.any_cons]
    by_cases hr' : runAt (bl n l) k s = true
    · rw [hr'] at q
      have b1 : B1__law_has_run (HR l n k rg (.pu (.int (s : Int))) .em) = .rt (.bl true) (HR l n k rg (.pu (.int (s : Int))) .em) := sIf_t (bOf_ok q) (by rfl)
      refine ⟨HR l n k rg (.pu (.int (s : Int))) .em, ?_⟩
      rw [hr', Bool.true_or, if_pos rfl]
      simp only [forF, t1, Res.ne, b1]
    · have hr2 : runAt (bl n l) k s = false := by simpa using hr'
      rw [hr2] at q
      have b1 : B1__law_has_run (HR l n k rg (.pu (.int (s : Int))) .em) = .nx (HR l n k rg (.pu (.int (s : Int))) .em) := sIf_f (bOf_ok q) rfl
      refine ⟨ε', ?_⟩
      rw [hr2, Bool.false_or]
      simp only [forF, t1, Res.ne, b1]
      exact e
theorem hasrun_ok {l : List Nat} {n k : Nat} (rg : Bool) (hn : n ≤ 100) (h1 : 1 ≤ k) (hk : k ≤ 1000) : g__law_has_run [lotD l, .int (n : Int), .int (k : Int), .bl rg] = .ok (.bl (hr (bl n l) k rg)) := by
  let E := HR l n k rg .em .em
  have st : startE 6 [lotD l, .int (n : Int), .int (k : Int), .bl rg] = E := rfl
  have gt : dGt (.int (k : Int)) (.int (n : Int)) = .ok (.bl (decide (k > n))) := by
    show Res.ok (D.bl (decide ((n : Int) < (k : Int)))) = _
    congr 2
    exact decide_eq_decide.mpr (by omega)
  have tst : bOf (eOp dGt (eV 2) (eV 1)) E = .ok (decide (k > n), E) := bOf_ok (eOp_ok (by rfl) (by rfl) gt)
  show outRes (b__law_has_run (startE 6 [lotD l, .int (n : Int), .int (k : Int), .bl rg])) = _
  rw [st]
  unfold b__law_has_run hr
  rw [bl_len]
  by_cases h : k > n
  · rw [decide_eq_true h] at tst
    rw [if_pos h]
    have a1 : sIf (bOf (eOp dGt (eV 2) (eV 1))) (sRet (eC (.bl false))) (fun ε => .nx ε) E = .rt (.bl false) E := sIf_t tst (by rfl)
    simp only [sSeq, a1, Out.andThen, outRes]
  · rw [decide_eq_false h] at tst
    rw [if_neg h]
    refine out_seq (ε1 := E) (sIf_f tst rfl) ?_
    obtain ⟨ε', e⟩ := run_loop (l := l) (n := n) (k := k) (rg := rg) hk (if rg then n else n - k + 1) 0 .em (by
      intro u hu t ht
      unfold wr
      cases rg
      · simp only [Bool.false_eq_true, if_false] at hu
        split <;> omega
      · simp only [if_true] at hu
        split <;> omega)
    rw [← List.range_eq_range'] at e
    have src : S1__law_has_run E = .ok ((List.range (if rg then n else n - k + 1)).map fun i : Nat => D.int (i : Int), E) := by
      cases rg
      · refine iCall_ok (g := fRange) (ds := [.int ((n : Int) - (k : Int) + 1)]) (by rfl) (fRange1 ?_ ?_)
        · simp only [Bool.false_eq_true, if_false]; omega
        · simp only [Bool.false_eq_true, if_false]; omega
      · refine iCall_ok (g := fRange) (ds := [.int (n : Int)]) (by rfl) (fRange1 rfl ?_)
        simp only [if_true]; omega
    have lp : sFor S1__law_has_run T1__law_has_run B1__law_has_run E = if ((List.range (if rg then n else n - k + 1)).any fun u => runAt (bl n l) k u) = true then .rt (.bl true) ε' else .nx ε' := sFor_ok src e
    by_cases ha : ((List.range (if rg then n else n - k + 1)).any fun u => runAt (bl n l) k u) = true
    · rw [ha, if_pos rfl] at lp
      rw [ha]
      simp only [sSeq, lp, Out.andThen, outRes]
    · have hf : ((List.range (if rg then n else n - k + 1)).any fun u => runAt (bl n l) k u) = false := by simpa using ha
      rw [hf, if_neg (by decide)] at lp
      rw [hf]
      exact out_seq lp (by rfl)
end W41
namespace W41
open PySem L2 PL
/-! draws -/
theorem ch_of {t b : Nat} (hb : 1 ≤ b) (h5 : b ≤ 5) (h : t ≤ b) : Ch (((t : Int) : Rat) / ((b : Int) : Rat)) := by
  have n : ((b : Nat) : Rat) ≠ 0 := nat_ne hb
  refine ⟨of_nn hb, ?_, ?_⟩
  · rw [Rat.intCast_natCast, Rat.intCast_natCast, ← Rat.not_lt, Rat.lt_div_iff (natP hb), Rat.one_mul, Rat.not_lt]
    exact Rat.natCast_le_natCast.mpr h
  · obtain ⟨d, hd⟩ : ∃ d : Nat, 60 = b * d := by
      have : b = 1 ∨ b = 2 ∨ b = 3 ∨ b = 4 ∨ b = 5 := by omega
      rcases this with rfl | rfl | rfl | rfl | rfl
      · exact ⟨60, rfl⟩
      · exact ⟨30, rfl⟩
      · exact ⟨20, rfl⟩
      · exact ⟨15, rfl⟩
      · exact ⟨12, rfl⟩
    refine ⟨by decide, ((t * d : Nat) : Int), ?_, ?_⟩
    · rw [Rat.intCast_natCast, Rat.intCast_natCast, Rat.intCast_natCast, hd, Rat.natCast_mul, Rat.natCast_mul]
      grind
    · rw [Int.natAbs_natCast, hd]
      exact Nat.mul_le_mul_right _ h
theorem chance_ok (a b : Int) : ∃ (c : Rat) (a' b' : Int), Ch c ∧ g__law_chance [.int a, .int b] [] = .ok (rd c, [.int a', .int b']) := by
  obtain ⟨r, a1, b1, hr, e1⟩ := roll_ok a b 5 5 rfl (by decide) (by decide)
  obtain ⟨t, a2, b2, ht, e2⟩ := roll_ok a1 b1 (1 + (r : Int) + 1) (r + 2) (by omega) (by omega) (by omega)
  have c : ((1 + r : Nat) : Int) = 1 + (r : Int) := by omega
  have l1 := low_ok (t := (t : Int)) (b := ((1 + r : Nat) : Int)) (by omega) (by rw [Int.natAbs_natCast]; exact Nat.lt_of_le_of_lt (show 1 + r ≤ 6 by omega) (by decide))
  refine ⟨((t : Int) : Rat) / (((1 + r : Nat) : Int) : Rat), a2, b2, ch_of (by omega) (by omega) (by omega), ?_⟩
  rw [c] at l1 ⊢
  have st : startC 2 [D.int a, D.int b] [] = [.ow [.int a, .int b], .em] := rfl
  show outC (b__law_chance (startC 2 [D.int a, D.int b] [])) = _
  rw [st]
  unfold b__law_chance
  refine outC_seq (ε1 := [.ow [.int a1, .int b1], .pu (.int (1 + (r : Int)))]) (sTg_ok (eOp_ok (by rfl) (callC_ok (by rfl) (by rfl) (by rfl) e1 (by rfl)) (by rfl)) (by rfl)) ?_
  exact outC_ret (ε1 := [.ow [.int a2, .int b2], .pu (.int (1 + (r : Int)))]) (eCB_ok (aCons_ok (callC_ok (by rfl) (by rfl) (by rfl) e2 (by rfl)) (by rfl)) l1) rfl
theorem parts_draw (M : Int) : ∀ (xs acc : List D) (a b : Int), ∃ (L : List Rat) (a' b' : Int), L.length = xs.length ∧ (∀ c ∈ L, Ch c) ∧ loopC [2] (blkF [2] CT1__law_parts CP1__law_parts CE1__law_parts) xs [.ow [.int a, .int b], .pu (.int M), .em] acc = .ok (acc ++ L.map rd, [.ow [.int a', .int b'], .pu (.int M), .em])
  | [], acc, a, b => ⟨[], a, b, rfl, (fun _ h => by cases h), by simp [loopC]⟩
  | x :: xs, acc, a, b => by
    obtain ⟨c, a1, b1, d, e1⟩ := chance_ok a b
    obtain ⟨L, a2, b2, hl, hL, e2⟩ := parts_draw M xs (acc ++ [rd c]) a1 b1
    refine ⟨c :: L, a2, b2, by rw [List.length_cons, List.length_cons, hl], ?_, ?_⟩
    · intro q hq
      rcases List.mem_cons.mp hq with rfl | h
      · exact d
      · exact hL q h
    · have no : noOw [.ow [.int a, .int b], .pu (.int M), .em] [2] = true := rfl
      have bl : blkF [2] CT1__law_parts CP1__law_parts CE1__law_parts x [.ow [.int a, .int b], .pu (.int M), .em] = .ok (some (rd c), [.ow [.int a1, .int b1], .pu (.int M), .em]) :=
        blk_yes (ε1 := [.ow [.int a, .int b], .pu (.int M), .pu x]) rfl rfl (callC_ok (by rfl) (by rfl) (by rfl) e1 (by rfl)) (by rfl)
      simp only [loopC, no, if_true, bl, Res.ne, Res.bind_ok, accD, e2, List.map_cons]
      simp
theorem parts_ok (a b : Int) {n : Nat} (hn : n ≤ 7) : ∃ (L : List Rat) (a' b' : Int), L.length = n ∧ (∀ c ∈ L, Ch c) ∧ g__law_parts [.int a, .int b] [.int (n : Int)] = .ok (ps L, [.int a', .int b']) := by
  obtain ⟨L, a1, b1, hl, hL, e⟩ := parts_draw (n : Int) ((List.range n).map fun t : Nat => D.int (t : Int)) [] a b
  rw [List.length_map, List.length_range] at hl
  refine ⟨L, a1, b1, hl, hL, ?_⟩
  let E : Ev := [.ow [.int a, .int b], .pu (.int (n : Int)), .em]
  have src : CS1__law_parts E = .ok ((List.range n).map fun t : Nat => D.int (t : Int), E) :=
    iCall_ok (g := fRange) (ds := [.int (n : Int)]) (by rfl) (fRange1 rfl (by omega))
  have cm : eComp [2] CS1__law_parts CT1__law_parts CP1__law_parts CE1__law_parts E = .ok (L.map rd, [.ow [.int a1, .int b1], .pu (.int (n : Int)), .em]) := by
    have : ((List.range n).map fun t : Nat => D.int (t : Int)).length ≤ 1000000 := by simp; omega
    simp only [eComp, src, Res.bind_ok, this, if_true]
    exact e
  have st : startC 3 [D.int a, D.int b] [.int (n : Int)] = E := rfl
  show outC (b__law_parts (startC 3 [D.int a, D.int b] [.int (n : Int)])) = _
  rw [st]
  unfold b__law_parts
  exact outC_ret (eCB_ok (aCons_ok (eL_ok cm) aNil_ok) rfl) rfl
/-! sums over lots -/
theorem Ch.rest' {c : Rat} (h : Ch c) : Ch (1 - c) := by
  have l := h.l
  have hh := h.h
  obtain ⟨h0, A, e, la⟩ := h.b
  refine ⟨by grind, by grind, h0, 60 - A, ?_, ?_⟩
  · rw [Rat.intCast_sub]
    have : ((60 : Int) : Rat) = ((60 : Nat) : Rat) := by decide +kernel
    rw [this]
    grind
  · have p0 : (0 : Rat) ≤ (A : Rat) := by
      rw [← e]
      exact Rat.mul_nonneg l (by decide +kernel)
    have i0 : (0 : Int) ≤ A := by
      have : ((0 : Int) : Rat) ≤ (A : Rat) := by simpa using p0
      exact Rat.intCast_le_intCast.mp this
    omega
theorem pr_bd (l : List Nat) : ∀ (L : List Rat) (s D N : Nat) (z : Rat), Bd z D N → (∀ c ∈ L, Ch c) → Bd (pr l s L z) (D * 60 ^ L.length) (N * 60 ^ L.length)
  | [], s, D, N, z, hz, _ => by simpa [pr] using hz
  | c :: L, s, D, N, z, hz, hc => by
    have h1 : Bd (z * (if s ∈ l then c else 1 - c)) (D * 60) (N * 60) := by
      split
      · exact hz.mul (hc c (by simp)).b
      · exact hz.mul (hc c (by simp)).rest'.b
    have := pr_bd l L (s + 1) (D * 60) (N * 60) _ h1 fun d hd => hc d (by simp [hd])
    rw [List.length_cons, Nat.pow_succ, show D * (60 ^ L.length * 60) = D * 60 * 60 ^ L.length by rw [Nat.mul_assoc, Nat.mul_comm 60], show N * (60 ^ L.length * 60) = N * 60 * 60 ^ L.length by rw [Nat.mul_assoc, Nat.mul_comm 60]]
    exact this
theorem lots_len : ∀ n, (lots n).length = 2 ^ n
  | 0 => rfl
  | n + 1 => by
    rw [lots, List.length_append, List.length_map, lots_len n, Nat.pow_succ]
    omega
theorem good_len {n : Nat} (k : Nat) (rg : Bool) (h : n ≤ 7) : (good n k rg).length ≤ 128 := by
  have a := List.length_filter_le (fun l => !hr (bl n l) k rg) (lots n)
  have b : 2 ^ n ≤ 2 ^ 7 := Nat.pow_le_pow_right (by decide) h
  rw [lots_len] at a
  unfold good
  omega
def sumL (L : List Rat) (G : List (List Nat)) : Rat := tot (G.map fun l => pr l 0 L 1)
theorem tot_bd {D N : Nat} (h0 : 0 < D) : ∀ {l : List Rat}, (∀ q ∈ l, Bd q D N) → Bd (tot l) D (l.length * N)
  | [], _ => ⟨h0, 0, by show (0 : Rat) * _ = _; simp, by simp⟩
  | a :: l, h => by
    rw [tot_cons, List.length_cons, Nat.succ_mul, Nat.add_comm]
    exact Bd.add (h a (by simp)) (tot_bd h0 fun q hq => h q (by simp [hq]))
theorem prs_bd {L : List Rat} (hc : ∀ c ∈ L, Ch c) (l : List Nat) : Bd (pr l 0 L 1) (60 ^ L.length) (60 ^ L.length) := by
  have := pr_bd l L 0 1 1 1 (by have := Bd.nat 1; simpa using this) hc
  rwa [Nat.one_mul] at this
theorem p60n {n : Nat} (h : n ≤ 7) : 60 ^ n ≤ 2 ^ 42 := Nat.le_trans (Nat.pow_le_pow_right (by decide) h) (by decide)
theorem sumL_sz {L : List Rat} {G : List (List Nat)} (hc : ∀ c ∈ L, Ch c) (hn : L.length ≤ 7) (hG : G.length ≤ 128) : Sz (sumL L G) := by
  have p := p60n hn
  have b := tot_bd (Nat.pow_pos (n := L.length) (show 0 < 60 by decide)) (l := G.map fun l => pr l 0 L 1) (N := 60 ^ L.length) fun q hq => by
    obtain ⟨l, _, rfl⟩ := List.mem_map.mp hq
    exact prs_bd hc l
  refine b.sz (Nat.lt_of_le_of_lt p (by decide)) ?_
  rw [List.length_map]
  have : G.length * 60 ^ L.length ≤ 128 * 2 ^ 42 := Nat.mul_le_mul hG p
  exact Nat.lt_of_le_of_lt this (by decide)
theorem sum_lots {L : List Rat} {G : List (List Nat)} (hc : ∀ c ∈ L, Ch c) (hn : L.length ≤ 7) (hG : G.length ≤ 128) : g__law_total [.lst (G.map fun l => rd (pr l 0 L 1))] = .ok (rd (sumL L G)) := by
  have p := p60n hn
  have hs : (G.map fun l => pr l 0 L 1).length * 60 ^ L.length < 2 ^ 420 := by
    rw [List.length_map]
    have : G.length * 60 ^ L.length ≤ 128 * 2 ^ 42 := Nat.mul_le_mul hG p
    exact Nat.lt_of_le_of_lt this (by decide)
  exact ltotal_ok (ls := G.map fun l => pr l 0 L 1) (by rw [List.map_map]; rfl) (Nat.pow_pos (n := L.length) (by decide)) (Nat.lt_of_le_of_lt p (by decide)) (fun q hq => by
    obtain ⟨l, _, rfl⟩ := List.mem_map.mp hq
    exact prs_bd hc l) hs
end W41
namespace W41
open PySem L2 PL
def R (cs : List D) (n : Nat) (x2 x3 x4 x5 x6 x7 x8 x9 x10 x12 : Slot) : Ev := [.ow cs, .pu (.int (n : Int)), x2, x3, x4, x5, x6, x7, x8, x9, x10, .em, x12]
def gD (G : List (List Nat)) : D := .lst (G.map lotD)
theorem rows_comp (cs : List D) {n k : Nat} (hn : n ≤ 7) (h1 : 1 ≤ k) (hk : k ≤ 100) (L : List Rat) : eComp [11] CS1__law_right CT1__law_right CP1__law_right CE1__law_right (R cs n (.pu (ps L)) (.pu (.int (k : Int))) .em .em .em .em .em .em .em .em) = .ok ((good n k false).map lotD, R cs n (.pu (ps L)) (.pu (.int (k : Int))) .em .em .em .em .em .em .em .em) :=
  comp_bool lotD lotD (fun l => !hr (bl n l) k false) (fun l => [.ow cs, .pu (.int (n : Int)), .pu (ps L), .pu (.int (k : Int)), .em, .em, .em, .em, .em, .em, .em, .pu (lotD l), .em]) (xs := lots n) (by
    have v := eCB_ok (g := g__law_lots) (fs := aCons (eV 1) aNil) (ε := R cs n (.pu (ps L)) (.pu (.int (k : Int))) .em .em .em .em .em .em .em .em) (ε1 := R cs n (.pu (ps L)) (.pu (.int (k : Int))) .em .em .em .em .em .em .em .em) (ds := [.int (n : Int)]) rfl (lots_ok n hn)
    simp only [CS1__law_right, iSeq, v, Res.bind_ok, dSeq]) (by rw [lots_len]; exact Nat.le_trans (Nat.pow_le_pow_right (by decide) hn) (by decide)) rfl (fun _ _ => rfl)
    (fun l _ => bNot_ok (bOf_ok (eCB_ok rfl (hasrun_ok false (by omega) h1 (by omega))))) (fun _ _ => rfl) (fun _ _ => rfl)
theorem rings_comp (cs : List D) {n k : Nat} (hn : n ≤ 7) (h1 : 1 ≤ k) (hk : k ≤ 100) (L : List Rat) (x4 : Slot) : eComp [11] CS2__law_right CT2__law_right CP2__law_right CE2__law_right (R cs n (.pu (ps L)) (.pu (.int (k : Int))) x4 .em .em .em .em .em .em .em) = .ok ((good n k true).map lotD, R cs n (.pu (ps L)) (.pu (.int (k : Int))) x4 .em .em .em .em .em .em .em) :=
  comp_bool lotD lotD (fun l => !hr (bl n l) k true) (fun l => [.ow cs, .pu (.int (n : Int)), .pu (ps L), .pu (.int (k : Int)), x4, .em, .em, .em, .em, .em, .em, .pu (lotD l), .em]) (xs := lots n) (by
    have v := eCB_ok (g := g__law_lots) (fs := aCons (eV 1) aNil) (ε := R cs n (.pu (ps L)) (.pu (.int (k : Int))) x4 .em .em .em .em .em .em .em) (ε1 := R cs n (.pu (ps L)) (.pu (.int (k : Int))) x4 .em .em .em .em .em .em .em) (ds := [.int (n : Int)]) rfl (lots_ok n hn)
    simp only [CS2__law_right, iSeq, v, Res.bind_ok, dSeq]) (by rw [lots_len]; exact Nat.le_trans (Nat.pow_le_pow_right (by decide) hn) (by decide)) rfl (fun _ _ => rfl)
    (fun l _ => bNot_ok (bOf_ok (eCB_ok rfl (hasrun_ok true (by omega) h1 (by omega))))) (fun _ _ => rfl) (fun _ _ => rfl)
theorem inner_comp (cs : List D) {n k : Nat} {L : List Rat} (hc : ∀ c ∈ L, Ch c) (hL : L.length ≤ 7) (x4 x5 : Slot) {G : List (List Nat)} (hG : G.length ≤ 128) : eComp [11] CS3__law_right CT3__law_right CP3__law_right CE3__law_right (R cs n (.pu (ps L)) (.pu (.int (k : Int))) x4 x5 .em .em .em .em .em (.pu (gD G))) = .ok (G.map fun l => rd (pr l 0 L 1), R cs n (.pu (ps L)) (.pu (.int (k : Int))) x4 x5 .em .em .em .em .em (.pu (gD G))) :=
  comp_list lotD (fun l => rd (pr l 0 L 1)) rfl (by omega) rfl fun l _ =>
    blk_yes (ε1 := [.ow cs, .pu (.int (n : Int)), .pu (ps L), .pu (.int (k : Int)), x4, x5, .em, .em, .em, .em, .em, .pu (lotD l), .pu (gD G)]) rfl rfl (eCB_ok rfl (lot_ok l hc (by omega))) rfl
theorem due_comp (cs : List D) {n k : Nat} {L : List Rat} (hc : ∀ c ∈ L, Ch c) (hL : L.length ≤ 7) {G H : List (List Nat)} (hG : G.length ≤ 128) (hH : H.length ≤ 128) : eComp [12] CS4__law_right CT4__law_right CP4__law_right CE4__law_right (R cs n (.pu (ps L)) (.pu (.int (k : Int))) (.pu (gD G)) (.pu (gD H)) .em .em .em .em .em .em) = .ok ([G, H].map fun K => rd (sumL L K), R cs n (.pu (ps L)) (.pu (.int (k : Int))) (.pu (gD G)) (.pu (gD H)) .em .em .em .em .em .em) :=
  comp_list gD (fun K => rd (sumL L K)) rfl (by simp) rfl fun K hK => by
    have h : K.length ≤ 128 := by
      rcases List.mem_cons.mp hK with rfl | hK
      · exact hG
      · rcases List.mem_cons.mp hK with rfl | hK
        · exact hH
        · cases hK
    exact blk_yes (ε1 := R cs n (.pu (ps L)) (.pu (.int (k : Int))) (.pu (gD G)) (.pu (gD H)) .em .em .em .em .em (.pu (gD K))) rfl rfl (eCB_ok (aCons_ok (eL_ok (inner_comp cs hc hL _ _ h)) aNil_ok) (sum_lots hc hL h)) rfl
theorem alike_comp (cs : List D) {n : Nat} {c : Rat} (hc : Ch c) (hn : n ≤ 7) (x2 x3 x5 x6 x7 x8 : Slot) {G : List (List Nat)} (hG : G.length ≤ 128) : eComp [11] CS5__law_right CT5__law_right CP5__law_right CE5__law_right (R cs n x2 x3 (.pu (gD G)) x5 x6 x7 x8 (.pu (rd c)) .em .em) = .ok (G.map fun l => rd (pr l 0 (List.replicate n c) 1), R cs n x2 x3 (.pu (gD G)) x5 x6 x7 x8 (.pu (rd c)) .em .em) :=
  comp_list lotD (fun l => rd (pr l 0 (List.replicate n c) 1)) rfl (by omega) rfl fun l _ => by
    have lo := lot_ok (L := List.replicate n c) l (fun d hd => by rw [(List.mem_replicate.mp hd).2]; exact hc) (by rw [List.length_replicate]; omega)
    have r := rep_tup (rd c) (m := n) (by omega)
    have e : ps (List.replicate n c) = .tup (List.replicate n (rd c)) := by unfold ps; rw [List.map_replicate]
    rw [e] at lo
    exact blk_yes (ε1 := [.ow cs, .pu (.int (n : Int)), x2, x3, .pu (gD G), x5, x6, x7, x8, .pu (rd c), .em, .pu (lotD l), .em]) rfl rfl (eCB_ok (aCons_ok (eOp_ok rfl rfl r) rfl) lo) rfl
theorem like_l (ds : List D) (h : ∀ d ∈ ds, Plain 11 d) (hl : ds.length ≤ 1000000) : g__law_like 12 [.lst ds, .lst ds] = .ok (.bl true) := like_ok (.lst _ _ h hl)
theorem add_tup {a b : List D} (h : a.length + b.length ≤ 1000000) : dAdd (.tup a) (.tup b) = .ok (.tup (a ++ b)) := by
  show (if a.length + b.length ≤ 1000000 then Res.ok (D.tup (a ++ b)) else _) = _
  rw [if_pos h]
theorem right_ok (a b : Int) (n : Nat) (hn : n ≤ 7) : ∃ (a' b' : Int), g__law_right [.int a, .int b] [.int (n : Int)] = .ok (.bl true, [.int a', .int b']) := by
  obtain ⟨L, a1, b1, hl, hc, e1⟩ := parts_ok a b hn
  obtain ⟨r, a2, b2, hr', e2⟩ := roll_ok a1 b1 ((n : Int) + 2) (n + 2) (by omega) (by omega) (by omega)
  obtain ⟨s, a3, b3, hs', e3⟩ := roll_ok a2 b2 ((n : Int) + 1) (n + 1) (by omega) (by omega) (by omega)
  obtain ⟨c, a4, b4, cc, e4⟩ := chance_ok a3 b3
  obtain ⟨k, hk⟩ : ∃ k, k = 1 + r := ⟨_, rfl⟩
  have ck : 1 + (r : Int) = (k : Int) := by omega
  have h1 : 1 ≤ k := by omega
  have h2 : k ≤ n + 2 := by omega
  obtain ⟨P, C⟩ := cs_all n hn k h1 h2
  have v : Pt L := ⟨by omega, hc⟩
  have vr : Pt L.reverse := ⟨by rw [List.length_reverse]; omega, fun q hq => hc q (List.mem_reverse.mp hq)⟩
  have vt : Pt (rot s L) := ⟨by rw [rot_len hl]; omega, fun q hq => by
    unfold rot at hq
    rcases List.mem_append.mp hq with h | h
    · exact hc q (List.mem_of_mem_drop h)
    · exact hc q (List.mem_of_mem_take h)⟩
  have w1 := row_without_ok v h1 (show k ≤ 12 by omega)
  have w2 := ring_without_ok v h1 (show k ≤ 12 by omega)
  have w3 := row_without_ok vr h1 (show k ≤ 12 by omega)
  have w4 := ring_without_ok vt h1 (show k ≤ 12 by omega)
  have gl1 := good_len k false hn
  have gl2 := good_len k true hn
  obtain ⟨G, hG⟩ : ∃ G, G = good n k false := ⟨_, rfl⟩
  obtain ⟨H, hH⟩ : ∃ H, H = good n k true := ⟨_, rfl⟩
  have r1 : row L k = sumL L G := by rw [hG]; exact row_by hn hl h1 h2
  have r2 : ring L k = sumL L H := by rw [hH]; exact ring_by hn hl h1 h2
  have r3 : row L.reverse k = sumL L G := by rw [hG]; exact rev_by hn hl h1 h2
  have r4 : ring (rot s L) k = sumL L H := by rw [hH]; exact rot_by hn hl h1 h2 (by omega)
  have le : sumL L H ≤ sumL L G := by rw [hG, hH]; exact ring_le hn h1 h2 fun q hq => ⟨(hc q hq).l, (hc q hq).h⟩
  have r5 : sumL (List.replicate n c) G = ev P c := by
    rw [hG, ← C.val c]
    exact (row_by hn (by rw [List.length_replicate]) h1 h2).symm
  rw [r1] at w1
  rw [r2] at w2
  rw [r3] at w3
  rw [r4] at w4
  have w5 := C.rows
  have w6 := C.rings
  rw [← hG] at gl1 w5
  rw [← hH] at gl2 w6
  have s1 := sumL_sz (G := G) hc (by omega) gl1
  have s2 := sumL_sz (G := H) hc (by omega) gl2
  have rep : ∀ q ∈ List.replicate n c, Ch q := fun q hq => by rw [(List.mem_replicate.mp hq).2]; exact cc
  have sl := sum_lots (L := List.replicate n c) (G := G) rep (by rw [List.length_replicate]; exact hn) gl1
  rw [r5] at sl
  have vo := value_ok cc C.isp C.len C.sm
  let cs2 : List D := [.int a2, .int b2]
  let cs3 : List D := [.int a3, .int b3]
  let cs4 : List D := [.int a4, .int b4]
  let p : Slot := .pu (ps L)
  let kk : Slot := .pu (.int (k : Int))
  let gg : Slot := .pu (gD G)
  let hh : Slot := .pu (gD H)
  let due : D := .lst [rd (sumL L G), rd (sumL L H)]
  let t1 : D := .lst [rd (sumL L G), rd (sumL L H), .int ((G.length : Nat) : Int), .int ((H.length : Nat) : Int)]
  refine ⟨a4, b4, ?_⟩
  have st : startC 13 [D.int a, D.int b] [.int (n : Int)] = R [.int a, .int b] n .em .em .em .em .em .em .em .em .em .em := rfl
  show outC (b__law_right (startC 13 [D.int a, D.int b] [.int (n : Int)])) = _
  rw [st]
  unfold b__law_right
  refine outC_seq (ε1 := R cs2 n p kk .em .em .em .em .em .em .em .em) ?_ ?_
  · show _ = Out.nx (R cs2 n p (.pu (.int (k : Int))) .em .em .em .em .em .em .em .em)
    rw [← ck]
    exact sTg_ok (eTup_ok (aCons_ok (callC_ok (by rfl) (by rfl) (by rfl) e1 (by rfl)) (aCons_ok (eOp_ok (by rfl) (callC_ok (by rfl) (by rfl) (by rfl) e2 (by rfl)) (by rfl)) (by rfl)))) (by rfl)
  have c1 := rows_comp cs2 hn h1 (show k ≤ 100 by omega) L
  rw [← hG] at c1
  refine outC_seq (ε1 := R cs2 n p kk gg .em .em .em .em .em .em .em) (sTg_ok (eL_ok c1) rfl) ?_
  have c2 := rings_comp cs2 hn h1 (show k ≤ 100 by omega) L gg
  rw [← hH] at c2
  refine outC_seq (ε1 := R cs2 n p kk gg hh .em .em .em .em .em .em) (sTg_ok (eL_ok c2) rfl) ?_
  refine outC_seq (ε1 := R cs2 n p kk gg hh (.pu due) .em .em .em .em .em) (sTg_ok (eL_ok (due_comp cs2 (n := n) (k := k) hc (by omega) gl1 gl2)) rfl) ?_
  refine outC_seq (ε1 := R cs2 n p kk gg hh (.pu due) (.pu t1) .em .em .em .em) (sTg_ok (eL_ok (aCons_ok (eCB_ok (by rfl) w1) (aCons_ok (eCB_ok (by rfl) w2) (aCons_ok (eCB_ok (by rfl) w5) (aCons_ok (eCB_ok (by rfl) w6) aNil_ok))))) rfl) ?_
  have f1 : fLen [gD G] = .ok (.int ((G.length : Nat) : Int)) := by show Res.ok (D.int ((G.map lotD).length : Int)) = _; rw [List.length_map]
  have f2 : fLen [gD H] = .ok (.int ((H.length : Nat) : Int)) := by show Res.ok (D.int ((H.map lotD).length : Int)) = _; rw [List.length_map]
  refine outC_seq (ε1 := R cs2 n p kk gg hh (.pu due) (.pu t1) .em .em .em .em) (sIfN_ok (eCB_ok (ds := [t1, t1]) (aCons_ok (by rfl) (aCons_ok (eOp_ok (by rfl) (eL_ok (aCons_ok (eCB_ok (by rfl) f1) (aCons_ok (eCB_ok (by rfl) f2) aNil_ok))) (by rfl)) aNil_ok)) (like_l _ (fun d hd => by
    rcases List.mem_cons.mp hd with rfl | hd
    · exact plain_rd _ _
    · rcases List.mem_cons.mp hd with rfl | hd
      · exact plain_rd _ _
      · rcases List.mem_cons.mp hd with rfl | hd
        · exact .int _ _
        · rcases List.mem_cons.mp hd with rfl | hd
          · exact .int _ _
          · cases hd) (by simp)))) ?_
  refine outC_seq (ε1 := R cs3 n p kk gg hh (.pu due) (.pu t1) (.pu (.int (s : Int))) .em .em .em) (sTg_ok (callC_ok (by rfl) (by rfl) (by rfl) e3 (by rfl)) (by rfl)) ?_
  let F := R cs3 n p kk gg hh (.pu due) (.pu t1) (.pu (.int (s : Int))) .em .em .em
  have bk : eBack (eV 2) oN oN F = .ok (ps L.reverse, F) := by
    have v2 : eV 2 F = .ok (ps L, F) := rfl
    have e := bIxT_all (L.map rd).length (by rw [List.length_map]; omega)
    have d : dBack (ps L) none none = .ok (ps L.reverse) := by
      show dBack (.tup (L.map rd)) none none = .ok (.tup (L.reverse.map rd))
      simp only [dBack, e.1, e.2]
      rw [if_pos (by rw [List.length_map]; omega), pick_rev, List.map_reverse]
    simp only [eBack, v2, oN, Res.bind_ok, d]
  have rt : eOp dAdd (eSl (eV 2) (oS (eV 8)) oN) (eSl (eV 2) oN (oS (eV 8))) F = .ok (ps (rot s L), F) := by
    have v2 : eV 2 F = .ok (ps L, F) := rfl
    have v8 : oS (eV 8) F = .ok (some (s : Int), F) := rfl
    have d1 : dSl (ps L) (some (s : Int)) none = .ok (.tup ((L.map rd).drop s)) := by
      show Res.ok (D.tup (cutD (L.map rd) (some (s : Int)) none)) = _
      rw [cutD_drop]
    have d2 : dSl (ps L) none (some (s : Int)) = .ok (.tup ((L.map rd).take s)) := by
      show Res.ok (D.tup (cutD (L.map rd) none (some (s : Int)))) = _
      rw [cutD_take]
    have a1 : eSl (eV 2) (oS (eV 8)) oN F = .ok (.tup ((L.map rd).drop s), F) := by simp only [eSl, v2, v8, oN, Res.bind_ok, d1]
    have a2 : eSl (eV 2) oN (oS (eV 8)) F = .ok (.tup ((L.map rd).take s), F) := by simp only [eSl, v2, v8, oN, Res.bind_ok, d2]
    refine eOp_ok a1 a2 ?_
    rw [add_tup (by rw [List.length_drop, List.length_take, List.length_map]; omega)]
    unfold ps rot
    rw [List.map_append, List.map_drop, List.map_take]
  refine outC_seq (ε1 := R cs3 n p kk gg hh (.pu due) (.pu due) (.pu (.int (s : Int))) .em .em .em) (sTg_ok (eL_ok (aCons_ok (eCB_ok (aCons_ok bk (by rfl)) w3) (aCons_ok (eCB_ok (aCons_ok rt (by rfl)) w4) aNil_ok))) rfl) ?_
  let F2 := R cs3 n p kk gg hh (.pu due) (.pu due) (.pu (.int (s : Int))) .em .em .em
  refine outC_seq (ε1 := F2) ?_ ?_
  · have n1 : bNot (bOf (eCB (g__law_like 12) (aCons (eV 7) (aCons (eV 6) aNil)))) F2 = .ok (false, F2) := bNot_ok (c := true) (bOf_ok (eCB_ok (ds := [due, due]) (by rfl) (like_l _ (fun d hd => by
      rcases List.mem_cons.mp hd with rfl | hd
      · exact plain_rd _ _
      · rcases List.mem_cons.mp hd with rfl | hd
        · exact plain_rd _ _
        · cases hd) (by simp))))
    have m1 := m_nd s2 s1
    have m2 := m_nd s1 s2
    have gt : dGt (.int ((sumL L H).num * ((sumL L G).den : Int))) (.int ((sumL L G).num * ((sumL L H).den : Int))) = .ok (.bl false) := by
      show Res.ok (D.bl (decide ((sumL L G).num * ((sumL L H).den : Int) < (sumL L H).num * ((sumL L G).den : Int)))) = _
      have := (Rat.le_iff _ _).mp le
      rw [decide_eq_false (by omega)]
    have n2 : bOf (eOp dGt (eOp dMul (eOp dIx (eOp dIx (eV 6) (eC (.int 1))) (eC (.int 0))) (eOp dIx (eOp dIx (eV 6) (eC (.int 0))) (eC (.int 1)))) (eOp dMul (eOp dIx (eOp dIx (eV 6) (eC (.int 0))) (eC (.int 0))) (eOp dIx (eOp dIx (eV 6) (eC (.int 1))) (eC (.int 1))))) F2 = .ok (false, F2) :=
      bOf_ok (eOp_ok (eOp_ok (by rfl) (by rfl) m1) (eOp_ok (by rfl) (by rfl) m2) gt)
    refine sIf_f (ε1 := F2) ?_ rfl
    show bOr _ _ F2 = _
    simp only [bOr, n1, n2, Res.bind_ok, Bool.false_eq_true, if_false]
  refine outC_seq (ε1 := R cs4 n p kk gg hh (.pu due) (.pu due) (.pu (.int (s : Int))) (.pu (rd c)) .em .em) (sTg_ok (callC_ok (by rfl) (by rfl) (by rfl) e4 (by rfl)) (by rfl)) ?_
  refine outC_seq (ε1 := R cs4 n p kk gg hh (.pu due) (.pu due) (.pu (.int (s : Int))) (.pu (rd c)) (.pu (rd (ev P c))) .em) (sTg_ok (eCB_ok (aCons_ok (eL_ok (alike_comp cs4 cc hn p kk hh (.pu due) (.pu due) (.pu (.int (s : Int))) gl1)) aNil_ok) sl) rfl) ?_
  exact outC_ret (ε1 := R cs4 n p kk gg hh (.pu due) (.pu due) (.pu (.int (s : Int))) (.pu (rd c)) (.pu (rd (ev P c))) .em) (eCB_ok (ds := [rd (ev P c), rd (ev P c)]) (aCons_ok (eCB_ok (aCons_ok (eCB_ok (by rfl) C.pol) (by rfl)) vo) (by rfl)) (like_ok (plain_rd _ _))) rfl
end W41
namespace W41
open PySem L2 PL
/-! polynomials of whole numbers, as the program makes them -/
def toI (P : List Int) : List D := P.map D.int
def clen (P : List Int) : Nat → Nat
  | 0 => 0
  | m + 1 => if P.getD m 0 = 0 then clen P m else m + 1
def cutI (P : List Int) : List Int := P.take (clen P P.length)
theorem clen_le (P : List Int) : ∀ m, clen P m ≤ m
  | 0 => Nat.le_refl _
  | m + 1 => by
    have := clen_le P m
    unfold clen
    split <;> omega
theorem cutI_len (P : List Int) : (cutI P).length ≤ P.length := by
  unfold cutI
  rw [List.length_take]
  omega
theorem ixI {P : List Int} {m : Nat} {z : Int} (h : m < P.length) (hz : z = (m : Int)) : dIx (.lst (toI P)) (.int z) = .ok (.int (P.getD m 0)) := by
  subst hz
  have e : (toI P)[m]? = some (.int (P.getD m 0)) := by
    unfold toI
    rw [List.getElem?_map, List.getElem?_eq_getElem h, List.getD_eq_getElem?_getD, List.getElem?_eq_getElem h]
    rfl
  show (match L2.atI (toI P) (m : Int) with | some x => Res.ok x | none => .stuck) = _
  rw [L2.atI_nat e]
theorem cut_loop (P : List Int) : ∀ (m fuel : Nat), m ≤ P.length → m < fuel → whileF WC1_cut WB1_cut fuel [.pu (.lst (toI P)), .pu (.int (m : Int))] = .nx [.pu (.lst (toI P)), .pu (.int (clen P m : Int))]
  | m, 0, _, h => by omega
  | 0, fuel + 1, _, _ => by
    have c : WC1_cut [.pu (.lst (toI P)), .pu (.int ((0 : Nat) : Int))] = .ok (false, [.pu (.lst (toI P)), .pu (.int ((0 : Nat) : Int))]) := by rfl
    simp only [whileF, c, Res.out, Bool.false_eq_true, if_false]
    rfl
  | m + 1, fuel + 1, h, hf => by
    let E : Ev := [.pu (.lst (toI P)), .pu (.int ((m + 1 : Nat) : Int))]
    have ix := ixI (P := P) (m := m) (z := ((m + 1 : Nat) : Int) - 1) (by omega) (by omega)
    have g1 : bOf (eOp dGt (eV 1) (eC (.int 0))) E = .ok (true, E) := by
      refine bOf_ok (eOp_ok (by rfl) (by rfl) ?_)
      show Res.ok (D.bl (decide ((0 : Int) < ((m + 1 : Nat) : Int)))) = _
      rw [decide_eq_true (by omega)]
    have g2 : bOf (eOp dEq (eOp dIx (eV 0) (eOp dSub (eV 1) (eC (.int 1)))) (eC (.int 0))) E = .ok (decide (P.getD m 0 = 0), E) := bOf_ok (eOp_ok (eOp_ok (by rfl) (by rfl) ix) (by rfl) (dEq_int _ _))
    have c : WC1_cut E = .ok (decide (P.getD m 0 = 0), E) := by
      show bAnd _ _ E = _
      simp only [bAnd, g1, g2, Res.bind_ok, if_true]
    show whileF WC1_cut WB1_cut (fuel + 1) E = _
    by_cases hz : P.getD m 0 = 0
    · rw [decide_eq_true hz] at c
      have b : WB1_cut E = .nx [.pu (.lst (toI P)), .pu (.int (m : Int))] := by
        refine sTg_ok (d := .int (m : Int)) (ε1 := E) (eOp_ok (by rfl) (by rfl) ?_) rfl
        show Res.ok (D.int (((m + 1 : Nat) : Int) - 1)) = _
        congr 2
        omega
      simp only [whileF, c, Res.out, if_true, b, clen, if_pos hz]
      exact cut_loop P m fuel (by omega) (by omega)
    · rw [decide_eq_false hz] at c
      simp only [whileF, c, Res.out, Bool.false_eq_true, if_false, clen, if_neg hz]
      rfl
theorem cut_ok {P : List Int} (h : P.length ≤ 1000) : g_cut [.lst (toI P)] = .ok (.tup (toI (cutI P))) := by
  have lp := cut_loop P P.length 1000000 (Nat.le_refl _) (by omega)
  have ln : fLen [.lst (toI P)] = .ok (.int (P.length : Int)) := by show Res.ok (D.int ((toI P).length : Int)) = _; unfold toI; rw [List.length_map]
  have st : startE 2 [.lst (toI P)] = [.pu (.lst (toI P)), .em] := rfl
  show outRes (b_cut (startE 2 [.lst (toI P)])) = _
  rw [st]
  unfold b_cut
  refine out_seq (ε1 := [.pu (.lst (toI P)), .pu (.int (P.length : Int))]) (sTg_ok (eCB_ok (by rfl) ln) rfl) ?_
  refine out_seq lp ?_
  have sl : eSl (eV 0) oN (oS (eV 1)) [.pu (.lst (toI P)), .pu (.int (clen P P.length : Int))] = .ok (.lst (toI (cutI P)), [.pu (.lst (toI P)), .pu (.int (clen P P.length : Int))]) := by
    have v0 : eV 0 [.pu (.lst (toI P)), .pu (.int (clen P P.length : Int))] = .ok (.lst (toI P), [.pu (.lst (toI P)), .pu (.int (clen P P.length : Int))]) := rfl
    have v1 : oS (eV 1) [.pu (.lst (toI P)), .pu (.int (clen P P.length : Int))] = .ok (some (clen P P.length : Int), [.pu (.lst (toI P)), .pu (.int (clen P P.length : Int))]) := rfl
    have d : dSl (.lst (toI P)) none (some (clen P P.length : Int)) = .ok (.lst (toI (cutI P))) := by
      show Res.ok (D.lst (cutD (toI P) none (some (clen P P.length : Int)))) = _
      rw [cutD_take]
      unfold toI cutI
      rw [List.map_take]
    simp only [eSl, v0, v1, oN, Res.bind_ok, d]
  exact out_ret (eCB_ok (aCons_ok sl aNil_ok) rfl)
def mx (a b : Nat) : Nat := if b > a then b else a
def pad (P : List Int) (m : Nat) : List Int := P ++ List.replicate (m - P.length) 0
def addI (P Q : List Int) : List Int := cutI (((pad P (mx P.length Q.length)).zip (pad Q (mx P.length Q.length))).map fun p => p.1 + p.2)
theorem pad_len {P : List Int} {m : Nat} (h : P.length ≤ m) : (pad P m).length = m := by
  unfold pad
  rw [List.length_append, List.length_replicate]
  omega
theorem mx_l (a b : Nat) : a ≤ mx a b := by unfold mx; split <;> omega
theorem mx_r (a b : Nat) : b ≤ mx a b := by unfold mx; split <;> omega
theorem addI_len {P Q : List Int} {t : Nat} (h1 : P.length ≤ t) (h2 : Q.length ≤ t) : (addI P Q).length ≤ t := by
  unfold addI
  refine Nat.le_trans (cutI_len _) ?_
  rw [List.length_map, List.length_zip, pad_len (mx_l _ _), pad_len (mx_r _ _), Nat.min_self]
  unfold mx
  split <;> omega
theorem pad_ok {P : List Int} {m : Nat} {z : Int} (h : P.length ≤ m) (hm : m ≤ 1000) (hz : z = ((m - P.length : Nat) : Int)) : (dMul (.lst [.int 0]) (.int z)).bind (fun d => dAdd (.lst (toI P)) d) = .ok (.lst (toI (pad P m))) := by
  rw [rep_lst (.int 0) hz (by omega)]
  simp only [Res.bind_ok]
  rw [add_lst (by unfold toI; rw [List.length_map, List.length_replicate]; omega)]
  unfold toI pad
  rw [List.map_append, List.map_replicate]
theorem add_ok {P Q : List Int} (h1 : P.length ≤ 900) (h2 : Q.length ≤ 900) : g_add [.tup (toI P), .tup (toI Q)] = .ok (.tup (toI (addI P Q))) := by
  obtain ⟨m, hm⟩ : ∃ m, m = mx P.length Q.length := ⟨_, rfl⟩
  have ml : P.length ≤ m := by rw [hm]; exact mx_l _ _
  have mr : Q.length ≤ m := by rw [hm]; exact mx_r _ _
  have m9 : m ≤ 900 := by rw [hm]; unfold mx; split <;> omega
  have l1 : fLen [.tup (toI P)] = .ok (.int (P.length : Int)) := by show Res.ok (D.int ((toI P).length : Int)) = _; unfold toI; rw [List.length_map]
  have l2 : fLen [.tup (toI Q)] = .ok (.int (Q.length : Int)) := by show Res.ok (D.int ((toI Q).length : Int)) = _; unfold toI; rw [List.length_map]
  have mxo : fMax2 [.int (P.length : Int), .int (Q.length : Int)] = .ok (.int (m : Int)) := by
    show Res.ok (D.int (if (Q.length : Int) > (P.length : Int) then (Q.length : Int) else (P.length : Int))) = _
    rw [hm]
    unfold mx
    by_cases h : Q.length > P.length
    · rw [if_pos h, if_pos (by omega)]
    · rw [if_neg h, if_neg (by omega)]
  have p1 := pad_ok (P := P) (m := m) (z := (m : Int) - (P.length : Int)) ml (by omega) (by omega)
  have p2 := pad_ok (P := Q) (m := m) (z := (m : Int) - (Q.length : Int)) mr (by omega) (by omega)
  let E : Slot → Slot → Slot → Ev := fun a b c => [.pu (.tup (toI P)), .pu (.tup (toI Q)), a, b, c, .em, .em]
  let E2 := E (.pu (.int (m : Int))) .em .em
  have rp : ∀ (z : Int) (n : Nat), z = (n : Int) → n ≤ 1000 → dMul (.lst [.int 0]) (.int z) = .ok (.lst (List.replicate n (.int 0))) := fun z n hz hn => rep_lst (.int 0) hz hn
  have r1 := rp ((m : Int) - (P.length : Int)) (m - P.length) (by omega) (by omega)
  have r2 := rp ((m : Int) - (Q.length : Int)) (m - Q.length) (by omega) (by omega)
  rw [r1] at p1
  rw [r2] at p2
  simp only [Res.bind_ok] at p1 p2
  have s1 : slP (eOp dAdd (eL (eCN fList (aCons (eV 0) aNil))) (eOp dMul (eL (aCons (eC (.int 0)) aNil)) (eOp dSub (eV 2) (eCB fLen (aCons (eV 0) aNil))))) E2 = .ok (.pu (.lst (toI (pad P m))), E2) := by
    have := eOp_ok (op := dAdd) (fa := eL (eCN fList (aCons (eV 0) aNil))) (fb := eOp dMul (eL (aCons (eC (.int 0)) aNil)) (eOp dSub (eV 2) (eCB fLen (aCons (eV 0) aNil)))) (ε := E2) (ε1 := E2) (ε2 := E2) (a := .lst (toI P)) (by rfl) (eOp_ok (by rfl) (eOp_ok (by rfl) (eCB_ok (by rfl) l1) (by rfl)) r1) p1
    simp only [slP, this, Res.bind_ok]
  have s2 : slP (eOp dAdd (eL (eCN fList (aCons (eV 1) aNil))) (eOp dMul (eL (aCons (eC (.int 0)) aNil)) (eOp dSub (eV 2) (eCB fLen (aCons (eV 1) aNil))))) E2 = .ok (.pu (.lst (toI (pad Q m))), E2) := by
    have := eOp_ok (op := dAdd) (fa := eL (eCN fList (aCons (eV 1) aNil))) (fb := eOp dMul (eL (aCons (eC (.int 0)) aNil)) (eOp dSub (eV 2) (eCB fLen (aCons (eV 1) aNil)))) (ε := E2) (ε1 := E2) (ε2 := E2) (a := .lst (toI Q)) (by rfl) (eOp_ok (by rfl) (eOp_ok (by rfl) (eCB_ok (by rfl) l2) (by rfl)) r2) p2
    simp only [slP, this, Res.bind_ok]
  let F := E (.pu (.int (m : Int))) (.pu (.lst (toI (pad P m)))) (.pu (.lst (toI (pad Q m))))
  have zl : ((pad P m).zip (pad Q m)).length = m := by rw [List.length_zip, pad_len ml, pad_len mr, Nat.min_self]
  have src : CS1_add F = .ok (((pad P m).zip (pad Q m)).map fun p => .tup [.int p.1, .int p.2], F) := by
    refine iCall_ok (g := fZip) (ds := [.lst (toI (pad P m)), .lst (toI (pad Q m))]) (by rfl) ?_
    show Res.ok (zipD (toI (pad P m)) (toI (pad Q m))) = _
    unfold toI
    rw [zipD_map]
  have cm : eComp [5, 6] CS1_add CT1_add CP1_add CE1_add F = .ok (toI (((pad P m).zip (pad Q m)).map fun p => p.1 + p.2), F) := by
    have t := comp_list (vs := [5, 6]) (src := CS1_add) (tgt := CT1_add) (test := CP1_add) (elt := CE1_add) (ε := F) (ε1 := F) (fun p : Int × Int => .tup [.int p.1, .int p.2]) (fun p => .int (p.1 + p.2)) (xs := (pad P m).zip (pad Q m)) src (by omega) rfl fun p _ =>
      blk_yes (ε1 := [.pu (.tup (toI P)), .pu (.tup (toI Q)), .pu (.int (m : Int)), .pu (.lst (toI (pad P m))), .pu (.lst (toI (pad Q m))), .pu (.int p.1), .pu (.int p.2)]) rfl rfl (by rfl) rfl
    rw [t]
    unfold toI
    rw [List.map_map]
    rfl
  have c := cut_ok (P := ((pad P m).zip (pad Q m)).map fun p => p.1 + p.2) (by rw [List.length_map]; omega)
  have st : startE 7 [.tup (toI P), .tup (toI Q)] = E .em .em .em := rfl
  show outRes (b_add (startE 7 [.tup (toI P), .tup (toI Q)])) = _
  rw [st]
  unfold b_add addI
  rw [← hm]
  refine out_seq (ε1 := E2) (sTg_ok (eCB_ok (aCons_ok (eCB_ok (by rfl) l1) (aCons_ok (eCB_ok (by rfl) l2) aNil_ok)) mxo) rfl) ?_
  refine out_seq (ε1 := F) ?_ ?_
  · show sPar2 3 4 _ _ E2 = _
    simp only [sPar2, s1, s2, Res.out]
    rfl
  exact out_ret (eCB_ok (aCons_ok (eL_ok cm) aNil_ok) c)
end W41
namespace W41
open PySem L2 PL
def mi (a : Nat) (p : Int) : Nat → List Int → List Int → List Int
  | _, [], f => f
  | j, q :: Q, f => mi a p (j + 1) Q (f.set (a + j) (f.getD (a + j) 0 + p * q))
def mo (Q : List Int) : Nat → List Int → List Int → List Int
  | _, [], f => f
  | a, p :: P, f => mo Q (a + 1) P (mi a p 0 Q f)
def mulI (P Q : List Int) : List Int := cutI (mo Q 0 P (List.replicate (P.length + Q.length - 1) 0))
theorem mi_len (a : Nat) (p : Int) : ∀ (Q : List Int) (j : Nat) (f : List Int), (mi a p j Q f).length = f.length
  | [], _, _ => rfl
  | q :: Q, j, f => by
    unfold mi
    rw [mi_len a p Q, List.length_set]
theorem mo_len (Q : List Int) : ∀ (P : List Int) (a : Nat) (f : List Int), (mo Q a P f).length = f.length
  | [], _, _ => rfl
  | p :: P, a, f => by
    unfold mo
    rw [mo_len Q P, mi_len]
theorem mulI_len (P Q : List Int) : (mulI P Q).length ≤ P.length + Q.length - 1 := by
  unfold mulI
  refine Nat.le_trans (cutI_len _) ?_
  rw [mo_len, List.length_replicate]
  exact Nat.le_refl _
theorem sSetIx_ok {i j : Nat} {k : Int} {fe fi : Ev → Res (D × Ev)} {ε ε1 ε2 ε3 : Ev} {d : D} {ds es : List D} (h : fe ε = .ok (d, ε1)) (h0 : getOw ε1 i = .ok es) (h1 : fi ε1 = .ok (.int k, ε2)) (h2 : getOw ε2 i = .ok ds) (h3 : L2.ixN ds.length k = some j) (h4 : ε2.set i (.ow (ds.set j d)) = ε3) : sSetIx i fe fi ε = .nx ε3 := by
  simp only [sSetIx, h, h0, h1, h2, h3, h4, Res.out]
def MS (x0 x1 : Slot) (f : List Int) (a : Nat) (p : Int) (s5 s6 : Slot) : Ev := [x0, x1, .ow (toI f), .pu (.int (a : Int)), .pu (.int p), s5, s6]
theorem mul_one' {p q : Int} (h : q.natAbs ≤ 1) : dMul (.int p) (.int q) = .ok (.int (p * q)) := by
  have o : mulOk p q = true := by
    have : q.natAbs.log2 < 60 := by
      have e : q.natAbs = 0 ∨ q.natAbs = 1 := by omega
      rcases e with e | e <;> rw [e] <;> decide
    simp only [mulOk, Bool.or_eq_true, decide_eq_true_eq]
    exact .inr this
  show (if mulOk p q = true then Res.ok (D.int (p * q)) else _) = _
  rw [if_pos o]
theorem in_loop {x0 x1 : Slot} {a : Nat} {p : Int} : ∀ (Q : List Int) (j : Nat) (f : List Int) (s5 s6 : Slot), (∀ q ∈ Q, q.natAbs ≤ 1) → a + j + Q.length ≤ f.length → ∃ t5 t6, forF T1_multiply B1_multiply (enumD j (toI Q)) (MS x0 x1 f a p s5 s6) = .nx (MS x0 x1 (mi a p j Q f) a p t5 t6)
  | [], j, f, s5, s6, _, _ => ⟨s5, s6, rfl⟩
  | q :: Q, j, f, s5, s6, hq, hl => by
    rw [List.length_cons] at hl
    have hj : a + j < f.length := by omega
    obtain ⟨t5, t6, e⟩ := in_loop (x0 := x0) (x1 := x1) (a := a) (p := p) Q (j + 1) (f.set (a + j) (f.getD (a + j) 0 + p * q)) (.pu (.int (j : Int))) (.pu (.int q)) (fun r hr => hq r (by simp [hr])) (by rw [List.length_set]; omega)
    refine ⟨t5, t6, ?_⟩
    let E := MS x0 x1 f a p (.pu (.int (j : Int))) (.pu (.int q))
    have t1 : T1_multiply (.tup [.int (j : Int), .int q]) (MS x0 x1 f a p s5 s6) = .ok E := rfl
    have ad : eOp dAdd (eV 3) (eV 5) E = .ok (.int ((a : Int) + (j : Int)), E) := rfl
    have ix := ixI (P := f) (z := (a : Int) + (j : Int)) hj (by omega)
    have e1 : eOpV dIx 2 (eOp dAdd (eV 3) (eV 5)) E = .ok (.int (f.getD (a + j) 0), E) := by
      have ga : getAny E 2 = .ok (.lst (toI f)) := rfl
      simp only [eOpV, ga, ad, ix, Res.bind_ok]
    have mu := mul_one' (p := p) (hq q (by simp))
    have xi : L2.ixN (toI f).length ((a : Int) + (j : Int)) = some (a + j) := by
      have tl : (toI f).length = f.length := by unfold toI; rw [List.length_map]
      rw [tl, s_ixN, if_pos (by omega), if_pos (by omega)]
      congr 1
    have sm : (toI f).set (a + j) (.int (f.getD (a + j) 0 + p * q)) = toI (f.set (a + j) (f.getD (a + j) 0 + p * q)) := by
      unfold toI
      rw [List.map_set]
    have b1 : B1_multiply E = .nx (MS x0 x1 (f.set (a + j) (f.getD (a + j) 0 + p * q)) a p (.pu (.int (j : Int))) (.pu (.int q))) :=
      sSetIx_ok (es := toI f) (ds := toI f) (eOp_ok e1 (eOp_ok (by rfl) (by rfl) mu) (by rfl)) rfl ad rfl xi (by rw [sm]; rfl)
    show forF _ _ (.tup [.int (j : Int), .int q] :: enumD (j + 1) (toI Q)) _ = _
    simp only [forF, t1, Res.ne, b1, e, mi]
def MT (x0 : Slot) (Q f : List Int) (s3 s4 s5 s6 : Slot) : Ev := [x0, .pu (.tup (toI Q)), .ow (toI f), s3, s4, s5, s6]
theorem out_loop {x0 : Slot} {Q : List Int} (hq : ∀ q ∈ Q, q.natAbs ≤ 1) : ∀ (P : List Int) (a : Nat) (f : List Int) (s3 s4 s5 s6 : Slot), (P = [] ∨ a + P.length + Q.length ≤ f.length + 1) → ∃ t3 t4 t5 t6, forF T2_multiply B2_multiply (enumD a (toI P)) (MT x0 Q f s3 s4 s5 s6) = .nx (MT x0 Q (mo Q a P f) t3 t4 t5 t6)
  | [], a, f, s3, s4, s5, s6, _ => ⟨s3, s4, s5, s6, rfl⟩
  | p :: P, a, f, s3, s4, s5, s6, hl => by
    have hl' : a + (P.length + 1) + Q.length ≤ f.length + 1 := by
      rcases hl with h | h
      · cases h
      · simpa using h
    obtain ⟨u5, u6, e1⟩ := in_loop (x0 := x0) (x1 := .pu (.tup (toI Q))) (a := a) (p := p) Q 0 f s5 s6 hq (by omega)
    obtain ⟨t3, t4, t5, t6, e2⟩ := out_loop (x0 := x0) hq P (a + 1) (mi a p 0 Q f) (.pu (.int (a : Int))) (.pu (.int p)) u5 u6 (.inr (by rw [mi_len]; omega))
    refine ⟨t3, t4, t5, t6, ?_⟩
    have t1 : T2_multiply (.tup [.int (a : Int), .int p]) (MT x0 Q f s3 s4 s5 s6) = .ok (MS x0 (.pu (.tup (toI Q))) f a p s5 s6) := rfl
    have b1 : B2_multiply (MS x0 (.pu (.tup (toI Q))) f a p s5 s6) = .nx (MS x0 (.pu (.tup (toI Q))) (mi a p 0 Q f) a p u5 u6) := sFor_ok (ds := enumD 0 (toI Q)) (ε1 := MS x0 (.pu (.tup (toI Q))) f a p s5 s6) rfl e1
    show forF _ _ (.tup [.int (a : Int), .int p] :: enumD (a + 1) (toI P)) _ = _
    simp only [forF, t1, Res.ne, b1, mo]
    exact e2
theorem mul_ok {P Q : List Int} (h1 : P.length ≤ 400) (h2 : 1 ≤ Q.length) (h3 : Q.length ≤ 400) (hq : ∀ q ∈ Q, q.natAbs ≤ 1) : g_multiply [.tup (toI P), .tup (toI Q)] = .ok (.tup (toI (mulI P Q))) := by
  obtain ⟨N, hN⟩ : ∃ N, N = P.length + Q.length - 1 := ⟨_, rfl⟩
  have l1 : fLen [.tup (toI P)] = .ok (.int (P.length : Int)) := by show Res.ok (D.int ((toI P).length : Int)) = _; unfold toI; rw [List.length_map]
  have l2 : fLen [.tup (toI Q)] = .ok (.int (Q.length : Int)) := by show Res.ok (D.int ((toI Q).length : Int)) = _; unfold toI; rw [List.length_map]
  have mxo : fMax2 [.int ((P.length : Int) + (Q.length : Int) - 1), .int 0] = .ok (.int (N : Int)) := by
    show Res.ok (D.int (if (0 : Int) > (P.length : Int) + (Q.length : Int) - 1 then 0 else (P.length : Int) + (Q.length : Int) - 1)) = _
    rw [if_neg (by omega)]
    congr 2
    omega
  have rp : dRep (.lst [.int 0]) (.int (N : Int)) = .ok (toI (List.replicate N 0)) := by
    have a : (N : Int) ≤ 1000 ∧ (-1000 : Int) ≤ (N : Int) ∧ [D.int 0].length ≤ 1000 := ⟨by omega, by omega, by simp⟩
    simp only [dRep]
    rw [if_pos a, Int.toNat_natCast, flat_rep]
    unfold toI
    rw [List.map_replicate]
  obtain ⟨t3, t4, t5, t6, e⟩ := out_loop (x0 := .pu (.tup (toI P))) hq P 0 (List.replicate N 0) .em .em .em .em (by
    by_cases h : P = []
    · exact .inl h
    · refine .inr ?_
      have := List.length_pos_iff.mpr h
      rw [List.length_replicate]
      omega)
  have c := cut_ok (P := mo Q 0 P (List.replicate N 0)) (by rw [mo_len, List.length_replicate]; omega)
  let E : Ev := [.pu (.tup (toI P)), .pu (.tup (toI Q)), .em, .em, .em, .em, .em]
  have st : startE 7 [.tup (toI P), .tup (toI Q)] = E := rfl
  show outRes (b_multiply (startE 7 [.tup (toI P), .tup (toI Q)])) = _
  rw [st]
  unfold b_multiply mulI
  rw [← hN]
  refine out_seq (ε1 := MT (.pu (.tup (toI P))) Q (List.replicate N 0) .em .em .em .em) (sOwn_ok (ε1 := E) (eOpN_ok (by rfl) (eCB_ok (aCons_ok (eOp_ok (eOp_ok (eCB_ok (by rfl) l1) (eCB_ok (by rfl) l2) (by rfl)) (by rfl) (by rfl)) (by rfl)) mxo) rp) (show 2 < 7 by decide) rfl) ?_
  refine out_seq (ε1 := MT (.pu (.tup (toI P))) Q (mo Q 0 P (List.replicate N 0)) t3 t4 t5 t6) (sFor_ok (ds := enumD 0 (toI P)) (ε1 := MT (.pu (.tup (toI P))) Q (List.replicate N 0) .em .em .em .em) rfl e) ?_
  exact out_ret (ε1 := [.pu (.tup (toI P)), .pu (.tup (toI Q)), .pu (.lst (toI (mo Q 0 P (List.replicate N 0)))), t3, t4, t5, t6]) (eCB_ok (ds := [.lst (toI (mo Q 0 P (List.replicate N 0)))]) (by rfl) c)
/-! polynomials of rows -/
def pD (P : List Int) : D := .tup (toI P)
def wh (S : List (List Int)) (z : List Int) : List Int := S.foldl addI z
def stI (S : List (List Int)) : List (List Int) := mulI (wh S []) [0, 1] :: S.dropLast.map fun P => mulI P [1, -1]
def iter (S : List (List Int)) : Nat → List (List Int)
  | 0 => S
  | t + 1 => stI (iter S t)
def runI (n k : Nat) : List Int := wh (iter ([1] :: List.replicate (k - 1) []) n) []
theorem wh_len {t : Nat} : ∀ (S : List (List Int)) (z : List Int), (∀ P ∈ S, P.length ≤ t) → z.length ≤ t → (wh S z).length ≤ t
  | [], z, _, h => h
  | P :: S, z, hS, h => wh_len S (addI z P) (fun Q hQ => hS Q (by simp [hQ])) (addI_len h (hS P (by simp)))
theorem own_loop {x0 x1 x2 x3 x6 : Slot} : ∀ (S : List (List Int)) (z : List Int) (j : Slot), fr j → (∀ P ∈ S, P.length ≤ 100) → z.length ≤ 100 → ∃ j', fr j' ∧ forF T1_run_polynomial B1_run_polynomial (S.map pD) [x0, x1, x2, x3, .pu (pD z), j, x6] = .nx [x0, x1, x2, x3, .pu (pD (wh S z)), j', x6]
  | [], z, j, hj, _, _ => ⟨j, hj, rfl⟩
  | P :: S, z, j, hj, hS, hz => by
    have hP := hS P (by simp)
    have e1 := add_ok (P := z) (Q := P) (by omega) (by omega)
    obtain ⟨j', hj', e2⟩ := own_loop (x0 := x0) (x1 := x1) (x2 := x2) (x3 := x3) (x6 := x6) S (addI z P) (.pu (pD P)) (.inr ⟨_, rfl⟩) (fun Q hQ => hS Q (by simp [hQ])) (addI_len hz hP)
    refine ⟨j', hj', ?_⟩
    have t1 : T1_run_polynomial (pD P) [x0, x1, x2, x3, .pu (pD z), j, x6] = .ok [x0, x1, x2, x3, .pu (pD z), .pu (pD P), x6] := rfl
    have b1 : B1_run_polynomial [x0, x1, x2, x3, .pu (pD z), .pu (pD P), x6] = .nx [x0, x1, x2, x3, .pu (pD (addI z P)), .pu (pD P), x6] := sTg_ok (eCB_ok (by rfl) e1) rfl
    rw [List.map_cons]
    simp only [forF, t1, Res.ne, b1]
    exact e2
theorem own_loop3 {x0 x1 x2 x3 x4 : Slot} : ∀ (S : List (List Int)) (z : List Int) (j : Slot), (∀ P ∈ S, P.length ≤ 100) → z.length ≤ 100 → ∃ j', forF T3_run_polynomial B3_run_polynomial (S.map pD) [x0, x1, x2, x3, x4, j, .pu (pD z)] = .nx [x0, x1, x2, x3, x4, j', .pu (pD (wh S z))]
  | [], z, j, _, _ => ⟨j, rfl⟩
  | P :: S, z, j, hS, hz => by
    have hP := hS P (by simp)
    have e1 := add_ok (P := z) (Q := P) (by omega) (by omega)
    obtain ⟨j', e2⟩ := own_loop3 (x0 := x0) (x1 := x1) (x2 := x2) (x3 := x3) (x4 := x4) S (addI z P) (.pu (pD P)) (fun Q hQ => hS Q (by simp [hQ])) (addI_len hz hP)
    refine ⟨j', ?_⟩
    have t1 : T3_run_polynomial (pD P) [x0, x1, x2, x3, x4, j, .pu (pD z)] = .ok [x0, x1, x2, x3, x4, .pu (pD P), .pu (pD z)] := rfl
    have b1 : B3_run_polynomial [x0, x1, x2, x3, x4, .pu (pD P), .pu (pD z)] = .nx [x0, x1, x2, x3, x4, .pu (pD P), .pu (pD (addI z P))] := sTg_ok (eCB_ok (by rfl) e1) rfl
    rw [List.map_cons]
    simp only [forF, t1, Res.ne, b1]
    exact e2
theorem stI_len {S : List (List Int)} {t : Nat} (hS : ∀ P ∈ S, P.length ≤ t) : ∀ P ∈ stI S, P.length ≤ t + 1 := by
  intro P hP
  simp only [stI, List.mem_cons, List.mem_map] at hP
  rcases hP with rfl | ⟨Q, hQ, rfl⟩
  · have a := mulI_len (wh S []) [0, 1]
    have b := wh_len S [] hS (by simp)
    simp at a
    omega
  · have a := mulI_len Q [1, -1]
    have b := hS Q (mem_dropLast hQ)
    simp at a
    omega
theorem stI_n {S : List (List Int)} (h : 1 ≤ S.length) : (stI S).length = S.length := by
  unfold stI
  rw [List.length_cons, List.length_map, List.length_dropLast]
  omega
theorem poly_turn {x0 x1 x3 x4 x5 x6 : Slot} {S : List (List Int)} (h5 : fr x5) (hl : S.length ≤ 100) (hS : ∀ P ∈ S, P.length ≤ 99) : ∃ y4 y5, fr y5 ∧ B2_run_polynomial [x0, x1, .pu (.lst (S.map pD)), x3, x4, x5, x6] = .nx [x0, x1, .pu (.lst ((stI S).map pD)), x3, y4, y5, x6] := by
  obtain ⟨j', hj, lp⟩ := own_loop (x0 := x0) (x1 := x1) (x2 := .pu (.lst (S.map pD))) (x3 := x3) (x6 := x6) S [] x5 h5 (fun P hP => by have := hS P hP; omega) (by simp)
  have wl := wh_len S [] (fun P hP => show P.length ≤ 100 by have := hS P hP; omega) (by simp)
  have e1 := mul_ok (P := wh S []) (Q := [0, 1]) (by omega) (by simp) (by simp) (by decide)
  let E : Slot → Ev := fun j => [x0, x1, .pu (.lst (S.map pD)), x3, .pu (pD (wh S [])), j, x6]
  have cut : dSl (.lst (S.map pD)) none (some (-1)) = .ok (.lst (S.dropLast.map pD)) := by
    show Res.ok (D.lst (cutD (S.map pD) none (some (-1)))) = _
    rw [cutD_init, List.map_dropLast]
  have src : ∀ j, CS1_run_polynomial (E j) = .ok (S.dropLast.map pD, E j) := fun j => by
    have v1 : eV 2 (E j) = .ok (.lst (S.map pD), E j) := rfl
    have v2 : oS (eUn dNeg (eC (.int 1))) (E j) = .ok (some (-1), E j) := rfl
    simp only [CS1_run_polynomial, iSeq, eSl, v1, oN, v2, Res.bind_ok, cut, dSeq]
  have dl : S.dropLast.length ≤ 100 := by rw [List.length_dropLast]; omega
  have cm : eComp [5] CS1_run_polynomial CT1_run_polynomial CP1_run_polynomial CE1_run_polynomial (E j') = .ok (S.dropLast.map fun P => pD (mulI P [1, -1]), E j') := by
    have e2 : ∀ P ∈ S.dropLast, g_multiply [pD P, pD [1, -1]] = .ok (pD (mulI P [1, -1])) := fun P hP => mul_ok (by have := hS P (mem_dropLast hP); omega) (by simp) (by simp) (by decide)
    rcases hj with rfl | ⟨d, rfl⟩
    · exact comp_list pD (fun P => pD (mulI P [1, -1])) (src _) (by omega) rfl fun P hP =>
        blk_yes (ε1 := E (.pu (pD P))) rfl rfl (eCB_ok (ds := [pD P, pD [1, -1]]) (by rfl) (e2 P hP)) rfl
    · exact comp_list pD (fun P => pD (mulI P [1, -1])) (src _) (by omega) rfl fun P hP =>
        blk_yes (ε1 := E (.pu (pD P))) rfl rfl (eCB_ok (ds := [pD P, pD [1, -1]]) (by rfl) (e2 P hP)) rfl
  refine ⟨.pu (pD (wh S [])), j', hj, ?_⟩
  show (sSeq _ _) _ = _
  have a1 : sTg (tName 4) (eTup aNil) [x0, x1, .pu (.lst (S.map pD)), x3, x4, x5, x6] = .nx [x0, x1, .pu (.lst (S.map pD)), x3, .pu (pD []), x5, x6] := by rfl
  rw [sSeq_nx a1]
  have a2 : sFor S1_run_polynomial T1_run_polynomial B1_run_polynomial [x0, x1, .pu (.lst (S.map pD)), x3, .pu (pD []), x5, x6] = .nx (E j') := sFor_ok (ds := S.map pD) (ε1 := [x0, x1, .pu (.lst (S.map pD)), x3, .pu (pD []), x5, x6]) rfl lp
  rw [sSeq_nx a2]
  have ad : dAdd (.lst [pD (mulI (wh S []) [0, 1])]) (.lst (S.dropLast.map fun P => pD (mulI P [1, -1]))) = .ok (.lst ((stI S).map pD)) := by
    rw [add_lst (by rw [List.length_map]; simp; omega)]
    unfold stI
    rw [List.map_cons, List.map_map]
    rfl
  exact sTg_ok (eOp_ok (eL_ok (aCons_ok (eCB_ok (ds := [pD (wh S []), pD [0, 1]]) (by rfl) e1) aNil_ok)) (eL_ok cm) ad) rfl
theorem poly_loop {x0 x1 x6 : Slot} {S0 : List (List Int)} (h1 : 1 ≤ S0.length) (hl : S0.length ≤ 100) (hS : ∀ P ∈ S0, P.length ≤ 1) : ∀ (m t : Nat) (x3 x4 x5 : Slot), fr x5 → t + m ≤ 90 → (iter S0 t).length = S0.length → (∀ P ∈ iter S0 t, P.length ≤ t + 1) → ∃ y3 y4 y5, forF T2_run_polynomial B2_run_polynomial ((List.range' t m).map fun i : Nat => D.int (i : Int)) [x0, x1, .pu (.lst ((iter S0 t).map pD)), x3, x4, x5, x6] = .nx [x0, x1, .pu (.lst ((iter S0 (t + m)).map pD)), y3, y4, y5, x6] ∧ (∀ P ∈ iter S0 (t + m), P.length ≤ t + m + 1)
  | 0, t, x3, x4, x5, _, _, _, hP => ⟨x3, x4, x5, rfl, hP⟩
  | m + 1, t, x3, x4, x5, h5, ht, hn, hP => by
    obtain ⟨y4, y5, f5, e1⟩ := poly_turn (x0 := x0) (x1 := x1) (x3 := .pu (.int (t : Int))) (x4 := x4) (x6 := x6) (S := iter S0 t) h5 (by omega) (fun P h => by have := hP P h; omega)
    obtain ⟨z3, z4, z5, e2, q⟩ := poly_loop (x0 := x0) (x1 := x1) (x6 := x6) h1 hl hS m (t + 1) (.pu (.int (t : Int))) y4 y5 f5 (by omega) (by show (stI (iter S0 t)).length = _; rw [stI_n (by omega), hn]) (stI_len hP)
    refine ⟨z3, z4, z5, ?_, by rw [show t + (m + 1) = t + 1 + m by omega]; exact q⟩
    have t1 : T2_run_polynomial (.int (t : Int)) [x0, x1, .pu (.lst ((iter S0 t).map pD)), x3, x4, x5, x6] = .ok [x0, x1, .pu (.lst ((iter S0 t).map pD)), .pu (.int (t : Int)), x4, x5, x6] := rfl
    rw [List.range'_succ, List.map_cons]
    simp only [forF, t1, Res.ne, e1]
    rw [show t + (m + 1) = t + 1 + m by omega]
    exact e2
theorem run_ok {n k : Nat} (hn : n ≤ 30) (h1 : 1 ≤ k) (h2 : k ≤ 12) : g_run_polynomial [.int (n : Int), .int (k : Int)] = .ok (pD (runI n k)) := by
  let S0 : List (List Int) := [1] :: List.replicate (k - 1) []
  have l0 : S0.length = k := by simp [S0]; omega
  have q0 : ∀ P ∈ S0, P.length ≤ 1 := fun P hP => by
    rcases List.mem_cons.mp hP with rfl | h
    · simp
    · rw [(List.mem_replicate.mp h).2]; simp
  have w : g_need_whole [.int (n : Int), .int 0, .int 30] = .ok .non := by
    have wo : g_is_whole [.int (n : Int), .int 0, .int 30] = .ok (.bl true) := by
      rw [whole_ok]
      have a : (0 : Int) ≤ (n : Int) := by omega
      have b : (n : Int) ≤ 30 := by omega
      simp [a, b]
    simp [g_need_whole, b_need_whole, outRes, wo]
  have nr := need_run_ok h1 h2
  let E : Slot → Slot → Slot → Slot → Slot → Ev := fun a b c d e => [.pu (.int (n : Int)), .pu (.int (k : Int)), a, b, c, d, e]
  have r := rep_lst (.tup []) (z := (k : Int) - 1) (m := k - 1) (by omega) (by omega)
  have ad : dAdd (.lst [.tup [.int 1]]) (.lst (List.replicate (k - 1) (.tup []))) = .ok (.lst (S0.map pD)) := by
    rw [add_lst (by rw [List.length_replicate]; simp; omega)]
    show Res.ok (D.lst _) = Res.ok (D.lst (pD [1] :: (List.replicate (k - 1) []).map pD))
    rw [List.map_replicate]
    rfl
  obtain ⟨y3, y4, y5, e1, q1⟩ := poly_loop (x0 := .pu (.int (n : Int))) (x1 := .pu (.int (k : Int))) (x6 := .em) (S0 := S0) (by omega) (by omega) q0 n 0 .em .em .em (.inl rfl) (by omega) rfl q0
  rw [← List.range_eq_range', Nat.zero_add] at e1
  rw [Nat.zero_add] at q1
  obtain ⟨j', e2⟩ := own_loop3 (x0 := .pu (.int (n : Int))) (x1 := .pu (.int (k : Int))) (x2 := .pu (.lst ((iter S0 n).map pD))) (x3 := y3) (x4 := y4) (iter S0 n) [] y5 (fun P hP => by have := q1 P hP; omega) (by simp)
  have src : S2_run_polynomial (E (.pu (.lst (S0.map pD))) .em .em .em .em) = .ok ((List.range n).map fun i : Nat => D.int (i : Int), E (.pu (.lst (S0.map pD))) .em .em .em .em) :=
    iCall_ok (g := fRange) (ds := [.int (n : Int)]) (by rfl) (fRange1 rfl (by omega))
  have st : startE 7 [.int (n : Int), .int (k : Int)] = E .em .em .em .em .em := rfl
  show outRes (b_run_polynomial (startE 7 [.int (n : Int), .int (k : Int)])) = _
  rw [st]
  unfold b_run_polynomial
  refine out_seq (ε1 := E .em .em .em .em .em) (drop_ok (eCB_ok (by rfl) w)) ?_
  refine out_seq (ε1 := E .em .em .em .em .em) (drop_ok (eCB_ok (by rfl) nr)) ?_
  refine out_seq (ε1 := E (.pu (.lst (S0.map pD))) .em .em .em .em) (sTg_ok (eOp_ok (by rfl) (eOp_ok (by rfl) (by rfl) r) ad) rfl) ?_
  refine out_seq (ε1 := E (.pu (.lst ((iter S0 n).map pD))) y3 y4 y5 .em) (sFor_ok src e1) ?_
  refine out_seq (ε1 := E (.pu (.lst ((iter S0 n).map pD))) y3 y4 y5 (.pu (pD []))) (by rfl) ?_
  refine out_seq (ε1 := E (.pu (.lst ((iter S0 n).map pD))) y3 y4 j' (.pu (pD (runI n k)))) (sFor_ok (ds := (iter S0 n).map pD) (ε1 := E (.pu (.lst ((iter S0 n).map pD))) y3 y4 y5 (.pu (pD []))) rfl e2) ?_
  exact out_ret rfl
/-! a polynomial's value: why those of long rows have more than one part -/
def vI (x : Int) (P : List Int) : Int := P.foldr (fun p a => p + x * a) 0
theorem vI_cons (x p : Int) (P : List Int) : vI x (p :: P) = p + x * vI x P := rfl
theorem vI_app (x : Int) : ∀ P Q : List Int, vI x (P ++ Q) = vI x P + x ^ P.length * vI x Q
  | [], Q => by
    show vI x Q = 0 + x ^ 0 * vI x Q
    rw [Int.pow_zero]
    omega
  | p :: P, Q => by
    rw [List.cons_append, vI_cons, vI_cons, vI_app x P Q, List.length_cons, Int.pow_succ]
    grind
theorem vI_zero (x : Int) : ∀ m : Nat, vI x (List.replicate m 0) = 0
  | 0 => rfl
  | m + 1 => by
    rw [List.replicate_succ, vI_cons, vI_zero x m]
    simp
theorem vI_take (x : Int) (P : List Int) : ∀ m, vI x (P.take m) = vI x (P.take (clen P m))
  | 0 => rfl
  | m + 1 => by
    unfold clen
    split
    · rename_i h
      rw [← vI_take x P m, List.take_add_one, vI_app]
      rw [List.getD_eq_getElem?_getD] at h
      cases e : P[m]? with
      | none => simp [vI]
      | some v =>
        rw [e] at h
        simp at h
        subst h
        simp [vI]
    · rfl
theorem vI_cut (x : Int) (P : List Int) : vI x (cutI P) = vI x P := by
  unfold cutI
  rw [← vI_take, List.take_length]
theorem vI_pad (x : Int) (P : List Int) (m : Nat) : vI x (pad P m) = vI x P := by
  unfold pad
  rw [vI_app, vI_zero]
  simp
theorem vI_zip (x : Int) : ∀ A B : List Int, A.length = B.length → vI x ((A.zip B).map fun p => p.1 + p.2) = vI x A + vI x B
  | [], [], _ => rfl
  | a :: A, b :: B, h => by
    have ih := vI_zip x A B (by simpa using h)
    rw [List.zip_cons_cons, List.map_cons, vI_cons, vI_cons, vI_cons, ih]
    grind
theorem vI_add (x : Int) (P Q : List Int) : vI x (addI P Q) = vI x P + vI x Q := by
  unfold addI
  rw [vI_cut, vI_zip x _ _ (by rw [pad_len (mx_l _ _), pad_len (mx_r _ _)]), vI_pad, vI_pad]
theorem vI_set (x d : Int) : ∀ (f : List Int) (i : Nat), i < f.length → vI x (f.set i (f.getD i 0 + d)) = vI x f + d * x ^ i
  | [], _, h => by simp at h
  | a :: f, 0, _ => by
    show a + d + x * vI x f = a + x * vI x f + d * x ^ 0
    rw [Int.pow_zero]
    grind
  | a :: f, i + 1, h => by
    have ih := vI_set x d f i (by simpa using h)
    show a + x * vI x (f.set i (f.getD i 0 + d)) = a + x * vI x f + d * x ^ (i + 1)
    rw [ih, Int.pow_succ]
    grind
theorem vI_mi (x : Int) (a : Nat) (p : Int) : ∀ (Q : List Int) (j : Nat) (f : List Int), a + j + Q.length ≤ f.length → vI x (mi a p j Q f) = vI x f + p * x ^ (a + j) * vI x Q
  | [], j, f, _ => by
    show vI x f = vI x f + p * x ^ (a + j) * 0
    simp
  | q :: Q, j, f, h => by
    rw [List.length_cons] at h
    have ih := vI_mi x a p Q (j + 1) (f.set (a + j) (f.getD (a + j) 0 + p * q)) (by rw [List.length_set]; omega)
    unfold mi
    rw [ih, vI_set x (p * q) f (a + j) (by omega), vI_cons, ← Nat.add_assoc, Int.pow_succ]
    grind
theorem vI_mo (x : Int) (Q : List Int) : ∀ (P : List Int) (a : Nat) (f : List Int), (P = [] ∨ a + P.length + Q.length ≤ f.length + 1) → vI x (mo Q a P f) = vI x f + x ^ a * vI x P * vI x Q
  | [], a, f, _ => by
    show vI x f = vI x f + x ^ a * 0 * vI x Q
    simp
  | p :: P, a, f, h => by
    have h' : a + (P.length + 1) + Q.length ≤ f.length + 1 := by
      rcases h with h | h
      · cases h
      · simpa using h
    have ih := vI_mo x Q P (a + 1) (mi a p 0 Q f) (.inr (by rw [mi_len]; omega))
    unfold mo
    rw [ih, vI_mi x a p Q 0 f (by omega), vI_cons, Nat.add_zero, Int.pow_succ]
    grind
theorem vI_mul (x : Int) (P Q : List Int) : vI x (mulI P Q) = vI x P * vI x Q := by
  unfold mulI
  rw [vI_cut, vI_mo x Q P 0 _ (by
    by_cases h : P = []
    · exact .inl h
    · have := List.length_pos_iff.mpr h
      rw [List.length_replicate]
      exact .inr (by omega)), vI_zero, Int.pow_zero]
  grind
def vS (x : Int) (L : List Int) : List Int := (L.foldl (fun a b => a + b) 0 * x) :: L.dropLast.map fun v => v * (1 - x)
def iterV (x : Int) (L : List Int) : Nat → List Int
  | 0 => L
  | t + 1 => vS x (iterV x L t)
theorem vI_wh (x : Int) : ∀ (S : List (List Int)) (z : List Int), vI x (wh S z) = (S.map (vI x)).foldl (fun a b => a + b) (vI x z)
  | [], z => rfl
  | P :: S, z => by
    have ih := vI_wh x S (addI z P)
    rw [vI_add] at ih
    exact ih
theorem vI_st (x : Int) (S : List (List Int)) : (stI S).map (vI x) = vS x (S.map (vI x)) := by
  have e1 : vI x [0, 1] = x := by simp [vI]
  have e2 : vI x [1, -1] = 1 - x := by simp [vI]; omega
  unfold stI vS
  rw [List.map_cons, vI_mul, vI_wh, e1, ← List.map_dropLast, List.map_map, List.map_map]
  congr 1
  refine List.map_congr_left fun P _ => ?_
  show vI x (mulI P [1, -1]) = vI x P * (1 - x)
  rw [vI_mul, e2]
theorem vI_iter (x : Int) (S : List (List Int)) : ∀ t, (iter S t).map (vI x) = iterV x (S.map (vI x)) t
  | 0 => rfl
  | t + 1 => by
    show (stI (iter S t)).map (vI x) = vS x (iterV x (S.map (vI x)) t)
    rw [vI_st, vI_iter x S t]
def vR (x : Int) (n k : Nat) : Int := (iterV x (1 :: List.replicate (k - 1) 0) n).foldl (fun a b => a + b) 0
theorem vR_ok (x : Int) (n k : Nat) : vI x (runI n k) = vR x n k := by
  unfold runI vR
  rw [vI_wh, vI_iter, List.map_cons, List.map_replicate]
  simp [vI]
theorem vR_30 : ∀ k, k < 12 → vR 1 30 (k + 1) = 1 ∧ vR 0 30 (k + 1) = 0 := by decide +kernel
theorem run_long (k : Nat) (h : k < 12) : 1 < (runI 30 (k + 1)).length := by
  obtain ⟨e1, e0⟩ := vR_30 k h
  rw [← vR_ok] at e1 e0
  generalize runI 30 (k + 1) = P at e1 e0 ⊢
  match P with
  | [] => simp [vI] at e1
  | [v] =>
    simp [vI] at e1 e0
    omega
  | _ :: _ :: P => simp
end W41
namespace W41
open PySem L2 PL
abbrev G2 : Ev → Out := sTg (tName 2) (eL (eComp [3] CS1__law_great_right CT1__law_great_right CP1__law_great_right CE1__law_great_right))
abbrev G3 : Ev → Out := sFor S1__law_great_right T1__law_great_right B1__law_great_right
theorem g2_1 (x0 : Slot) : G2 [x0, .pu (.int 1), .em, .em, .em, .em, .em, .em, .em] = .nx [x0, .pu (.int 1), .pu (.lst [.int 1, .int 1, .int 1, .int 1, .int 1, .int 1, .int 1, .int 1, .int 1, .int 1, .int 1, .int 1, .int 1, .int 1, .int 1, .int 1, .int 1, .int 1, .int 1, .int 1, .int 1, .int 1, .int 1, .int 1, .int 1, .int 1, .int 1, .int 1, .int 1, .int 1, .int 1, .int 1, .int 1, .int 1, .int 1, .int 1, .int 1, .int 1, .int 1, .int 1, .int 1]), .em, .em, .em, .em, .em, .em] := by kernel_rfl
theorem g3_1 (x0 : Slot) : G3 [x0, .pu (.int 1), .pu (.lst [.int 1, .int 1, .int 1, .int 1, .int 1, .int 1, .int 1, .int 1, .int 1, .int 1, .int 1, .int 1, .int 1, .int 1, .int 1, .int 1, .int 1, .int 1, .int 1, .int 1, .int 1, .int 1, .int 1, .int 1, .int 1, .int 1, .int 1, .int 1, .int 1, .int 1, .int 1, .int 1, .int 1, .int 1, .int 1, .int 1, .int 1, .int 1, .int 1, .int 1, .int 1]), .em, .em, .em, .em, .em, .em] = .nx [x0, .pu (.int 1), .pu (.lst [.int 1, .int 1, .int 1, .int 1, .int 1, .int 1, .int 1, .int 1, .int 1, .int 1, .int 1, .int 1, .int 1, .int 1, .int 1, .int 1, .int 1, .int 1, .int 1, .int 1, .int 1, .int 1, .int 1, .int 1, .int 1, .int 1, .int 1, .int 1, .int 1, .int 1, .int 1, .int 1, .int 1, .int 1, .int 1, .int 1, .int 1, .int 1, .int 1, .int 1, .int 1]), .pu (.int 40), .pu (.int 1), .em, .em, .em, .em] := by kernel_rfl
theorem g2_2 (x0 : Slot) : G2 [x0, .pu (.int 2), .em, .em, .em, .em, .em, .em, .em] = .nx [x0, .pu (.int 2), .pu (.lst [.int 1, .int 2, .int 3, .int 5, .int 8, .int 13, .int 21, .int 34, .int 55, .int 89, .int 144, .int 233, .int 377, .int 610, .int 987, .int 1597, .int 2584, .int 4181, .int 6765, .int 10946, .int 17711, .int 28657, .int 46368, .int 75025, .int 121393, .int 196418, .int 317811, .int 514229, .int 832040, .int 1346269, .int 2178309, .int 3524578, .int 5702887, .int 9227465, .int 14930352, .int 24157817, .int 39088169, .int 63245986, .int 102334155, .int 165580141, .int 267914296]), .em, .em, .em, .em, .em, .em] := by kernel_rfl
theorem g3_2 (x0 : Slot) : G3 [x0, .pu (.int 2), .pu (.lst [.int 1, .int 2, .int 3, .int 5, .int 8, .int 13, .int 21, .int 34, .int 55, .int 89, .int 144, .int 233, .int 377, .int 610, .int 987, .int 1597, .int 2584, .int 4181, .int 6765, .int 10946, .int 17711, .int 28657, .int 46368, .int 75025, .int 121393, .int 196418, .int 317811, .int 514229, .int 832040, .int 1346269, .int 2178309, .int 3524578, .int 5702887, .int 9227465, .int 14930352, .int 24157817, .int 39088169, .int 63245986, .int 102334155, .int 165580141, .int 267914296]), .em, .em, .em, .em, .em, .em] = .nx [x0, .pu (.int 2), .pu (.lst [.int 1, .int 2, .int 3, .int 5, .int 8, .int 13, .int 21, .int 34, .int 55, .int 89, .int 144, .int 233, .int 377, .int 610, .int 987, .int 1597, .int 2584, .int 4181, .int 6765, .int 10946, .int 17711, .int 28657, .int 46368, .int 75025, .int 121393, .int 196418, .int 317811, .int 514229, .int 832040, .int 1346269, .int 2178309, .int 3524578, .int 5702887, .int 9227465, .int 14930352, .int 24157817, .int 39088169, .int 63245986, .int 102334155, .int 165580141, .int 267914296]), .pu (.int 40), .pu (.int 267914296), .em, .em, .em, .em] := by kernel_rfl
theorem g2_3 (x0 : Slot) : G2 [x0, .pu (.int 3), .em, .em, .em, .em, .em, .em, .em] = .nx [x0, .pu (.int 3), .pu (.lst [.int 1, .int 2, .int 4, .int 7, .int 13, .int 24, .int 44, .int 81, .int 149, .int 274, .int 504, .int 927, .int 1705, .int 3136, .int 5768, .int 10609, .int 19513, .int 35890, .int 66012, .int 121415, .int 223317, .int 410744, .int 755476, .int 1389537, .int 2555757, .int 4700770, .int 8646064, .int 15902591, .int 29249425, .int 53798080, .int 98950096, .int 181997601, .int 334745777, .int 615693474, .int 1132436852, .int 2082876103, .int 3831006429, .int 7046319384, .int 12960201916, .int 23837527729, .int 43844049029]), .em, .em, .em, .em, .em, .em] := by kernel_rfl
theorem g3_3 (x0 : Slot) : G3 [x0, .pu (.int 3), .pu (.lst [.int 1, .int 2, .int 4, .int 7, .int 13, .int 24, .int 44, .int 81, .int 149, .int 274, .int 504, .int 927, .int 1705, .int 3136, .int 5768, .int 10609, .int 19513, .int 35890, .int 66012, .int 121415, .int 223317, .int 410744, .int 755476, .int 1389537, .int 2555757, .int 4700770, .int 8646064, .int 15902591, .int 29249425, .int 53798080, .int 98950096, .int 181997601, .int 334745777, .int 615693474, .int 1132436852, .int 2082876103, .int 3831006429, .int 7046319384, .int 12960201916, .int 23837527729, .int 43844049029]), .em, .em, .em, .em, .em, .em] = .nx [x0, .pu (.int 3), .pu (.lst [.int 1, .int 2, .int 4, .int 7, .int 13, .int 24, .int 44, .int 81, .int 149, .int 274, .int 504, .int 927, .int 1705, .int 3136, .int 5768, .int 10609, .int 19513, .int 35890, .int 66012, .int 121415, .int 223317, .int 410744, .int 755476, .int 1389537, .int 2555757, .int 4700770, .int 8646064, .int 15902591, .int 29249425, .int 53798080, .int 98950096, .int 181997601, .int 334745777, .int 615693474, .int 1132436852, .int 2082876103, .int 3831006429, .int 7046319384, .int 12960201916, .int 23837527729, .int 43844049029]), .pu (.int 40), .pu (.int 43844049029), .em, .em, .em, .em] := by kernel_rfl
theorem g2_4 (x0 : Slot) : G2 [x0, .pu (.int 4), .em, .em, .em, .em, .em, .em, .em] = .nx [x0, .pu (.int 4), .pu (.lst [.int 1, .int 2, .int 4, .int 8, .int 15, .int 29, .int 56, .int 108, .int 208, .int 401, .int 773, .int 1490, .int 2872, .int 5536, .int 10671, .int 20569, .int 39648, .int 76424, .int 147312, .int 283953, .int 547337, .int 1055026, .int 2033628, .int 3919944, .int 7555935, .int 14564533, .int 28074040, .int 54114452, .int 104308960, .int 201061985, .int 387559437, .int 747044834, .int 1439975216, .int 2775641472, .int 5350220959, .int 10312882481, .int 19878720128, .int 38317465040, .int 73859288608, .int 142368356257, .int 274423830033]), .em, .em, .em, .em, .em, .em] := by kernel_rfl
theorem g3_4 (x0 : Slot) : G3 [x0, .pu (.int 4), .pu (.lst [.int 1, .int 2, .int 4, .int 8, .int 15, .int 29, .int 56, .int 108, .int 208, .int 401, .int 773, .int 1490, .int 2872, .int 5536, .int 10671, .int 20569, .int 39648, .int 76424, .int 147312, .int 283953, .int 547337, .int 1055026, .int 2033628, .int 3919944, .int 7555935, .int 14564533, .int 28074040, .int 54114452, .int 104308960, .int 201061985, .int 387559437, .int 747044834, .int 1439975216, .int 2775641472, .int 5350220959, .int 10312882481, .int 19878720128, .int 38317465040, .int 73859288608, .int 142368356257, .int 274423830033]), .em, .em, .em, .em, .em, .em] = .nx [x0, .pu (.int 4), .pu (.lst [.int 1, .int 2, .int 4, .int 8, .int 15, .int 29, .int 56, .int 108, .int 208, .int 401, .int 773, .int 1490, .int 2872, .int 5536, .int 10671, .int 20569, .int 39648, .int 76424, .int 147312, .int 283953, .int 547337, .int 1055026, .int 2033628, .int 3919944, .int 7555935, .int 14564533, .int 28074040, .int 54114452, .int 104308960, .int 201061985, .int 387559437, .int 747044834, .int 1439975216, .int 2775641472, .int 5350220959, .int 10312882481, .int 19878720128, .int 38317465040, .int 73859288608, .int 142368356257, .int 274423830033]), .pu (.int 40), .pu (.int 274423830033), .em, .em, .em, .em] := by kernel_rfl
theorem g2_5 (x0 : Slot) : G2 [x0, .pu (.int 5), .em, .em, .em, .em, .em, .em, .em] = .nx [x0, .pu (.int 5), .pu (.lst [.int 1, .int 2, .int 4, .int 8, .int 16, .int 31, .int 61, .int 120, .int 236, .int 464, .int 912, .int 1793, .int 3525, .int 6930, .int 13624, .int 26784, .int 52656, .int 103519, .int 203513, .int 400096, .int 786568, .int 1546352, .int 3040048, .int 5976577, .int 11749641, .int 23099186, .int 45411804, .int 89277256, .int 175514464, .int 345052351, .int 678355061, .int 1333610936, .int 2621810068, .int 5154342880, .int 10133171296, .int 19921290241, .int 39164225421, .int 76994839906, .int 151367869744, .int 297581396608, .int 585029621920]), .em, .em, .em, .em, .em, .em] := by kernel_rfl
theorem g3_5 (x0 : Slot) : G3 [x0, .pu (.int 5), .pu (.lst [.int 1, .int 2, .int 4, .int 8, .int 16, .int 31, .int 61, .int 120, .int 236, .int 464, .int 912, .int 1793, .int 3525, .int 6930, .int 13624, .int 26784, .int 52656, .int 103519, .int 203513, .int 400096, .int 786568, .int 1546352, .int 3040048, .int 5976577, .int 11749641, .int 23099186, .int 45411804, .int 89277256, .int 175514464, .int 345052351, .int 678355061, .int 1333610936, .int 2621810068, .int 5154342880, .int 10133171296, .int 19921290241, .int 39164225421, .int 76994839906, .int 151367869744, .int 297581396608, .int 585029621920]), .em, .em, .em, .em, .em, .em] = .nx [x0, .pu (.int 5), .pu (.lst [.int 1, .int 2, .int 4, .int 8, .int 16, .int 31, .int 61, .int 120, .int 236, .int 464, .int 912, .int 1793, .int 3525, .int 6930, .int 13624, .int 26784, .int 52656, .int 103519, .int 203513, .int 400096, .int 786568, .int 1546352, .int 3040048, .int 5976577, .int 11749641, .int 23099186, .int 45411804, .int 89277256, .int 175514464, .int 345052351, .int 678355061, .int 1333610936, .int 2621810068, .int 5154342880, .int 10133171296, .int 19921290241, .int 39164225421, .int 76994839906, .int 151367869744, .int 297581396608, .int 585029621920]), .pu (.int 40), .pu (.int 585029621920), .em, .em, .em, .em] := by kernel_rfl
theorem g2_6 (x0 : Slot) : G2 [x0, .pu (.int 6), .em, .em, .em, .em, .em, .em, .em] = .nx [x0, .pu (.int 6), .pu (.lst [.int 1, .int 2, .int 4, .int 8, .int 16, .int 32, .int 63, .int 125, .int 248, .int 492, .int 976, .int 1936, .int 3840, .int 7617, .int 15109, .int 29970, .int 59448, .int 117920, .int 233904, .int 463968, .int 920319, .int 1825529, .int 3621088, .int 7182728, .int 14247536, .int 28261168, .int 56058368, .int 111196417, .int 220567305, .int 437513522, .int 867844316, .int 1721441096, .int 3414621024, .int 6773183680, .int 13435170943, .int 26649774581, .int 52862035640, .int 104856226964, .int 207991012832, .int 412567404640, .int 818361625600]), .em, .em, .em, .em, .em, .em] := by kernel_rfl
theorem g3_6 (x0 : Slot) : G3 [x0, .pu (.int 6), .pu (.lst [.int 1, .int 2, .int 4, .int 8, .int 16, .int 32, .int 63, .int 125, .int 248, .int 492, .int 976, .int 1936, .int 3840, .int 7617, .int 15109, .int 29970, .int 59448, .int 117920, .int 233904, .int 463968, .int 920319, .int 1825529, .int 3621088, .int 7182728, .int 14247536, .int 28261168, .int 56058368, .int 111196417, .int 220567305, .int 437513522, .int 867844316, .int 1721441096, .int 3414621024, .int 6773183680, .int 13435170943, .int 26649774581, .int 52862035640, .int 104856226964, .int 207991012832, .int 412567404640, .int 818361625600]), .em, .em, .em, .em, .em, .em] = .nx [x0, .pu (.int 6), .pu (.lst [.int 1, .int 2, .int 4, .int 8, .int 16, .int 32, .int 63, .int 125, .int 248, .int 492, .int 976, .int 1936, .int 3840, .int 7617, .int 15109, .int 29970, .int 59448, .int 117920, .int 233904, .int 463968, .int 920319, .int 1825529, .int 3621088, .int 7182728, .int 14247536, .int 28261168, .int 56058368, .int 111196417, .int 220567305, .int 437513522, .int 867844316, .int 1721441096, .int 3414621024, .int 6773183680, .int 13435170943, .int 26649774581, .int 52862035640, .int 104856226964, .int 207991012832, .int 412567404640, .int 818361625600]), .pu (.int 40), .pu (.int 818361625600), .em, .em, .em, .em] := by kernel_rfl
theorem g2_7 (x0 : Slot) : G2 [x0, .pu (.int 7), .em, .em, .em, .em, .em, .em, .em] = .nx [x0, .pu (.int 7), .pu (.lst [.int 1, .int 2, .int 4, .int 8, .int 16, .int 32, .int 64, .int 127, .int 253, .int 504, .int 1004, .int 2000, .int 3984, .int 7936, .int 15808, .int 31489, .int 62725, .int 124946, .int 248888, .int 495776, .int 987568, .int 1967200, .int 3918592, .int 7805695, .int 15548665, .int 30972384, .int 61695880, .int 122895984, .int 244804400, .int 487641600, .int 971364608, .int 1934923521, .int 3854298377, .int 7677624370, .int 15293552860, .int 30464209736, .int 60683615072, .int 120879588544, .int 240787812480, .int 479640701439, .int 955427104501]), .em, .em, .em, .em, .em, .em] := by kernel_rfl
theorem g3_7 (x0 : Slot) : G3 [x0, .pu (.int 7), .pu (.lst [.int 1, .int 2, .int 4, .int 8, .int 16, .int 32, .int 64, .int 127, .int 253, .int 504, .int 1004, .int 2000, .int 3984, .int 7936, .int 15808, .int 31489, .int 62725, .int 124946, .int 248888, .int 495776, .int 987568, .int 1967200, .int 3918592, .int 7805695, .int 15548665, .int 30972384, .int 61695880, .int 122895984, .int 244804400, .int 487641600, .int 971364608, .int 1934923521, .int 3854298377, .int 7677624370, .int 15293552860, .int 30464209736, .int 60683615072, .int 120879588544, .int 240787812480, .int 479640701439, .int 955427104501]), .em, .em, .em, .em, .em, .em] = .nx [x0, .pu (.int 7), .pu (.lst [.int 1, .int 2, .int 4, .int 8, .int 16, .int 32, .int 64, .int 127, .int 253, .int 504, .int 1004, .int 2000, .int 3984, .int 7936, .int 15808, .int 31489, .int 62725, .int 124946, .int 248888, .int 495776, .int 987568, .int 1967200, .int 3918592, .int 7805695, .int 15548665, .int 30972384, .int 61695880, .int 122895984, .int 244804400, .int 487641600, .int 971364608, .int 1934923521, .int 3854298377, .int 7677624370, .int 15293552860, .int 30464209736, .int 60683615072, .int 120879588544, .int 240787812480, .int 479640701439, .int 955427104501]), .pu (.int 40), .pu (.int 955427104501), .em, .em, .em, .em] := by kernel_rfl
theorem g2_8 (x0 : Slot) : G2 [x0, .pu (.int 8), .em, .em, .em, .em, .em, .em, .em] = .nx [x0, .pu (.int 8), .pu (.lst [.int 1, .int 2, .int 4, .int 8, .int 16, .int 32, .int 64, .int 128, .int 255, .int 509, .int 1016, .int 2028, .int 4048, .int 8080, .int 16128, .int 32192, .int 64256, .int 128257, .int 256005, .int 510994, .int 1019960, .int 2035872, .int 4063664, .int 8111200, .int 16190208, .int 32316160, .int 64504063, .int 128752121, .int 256993248, .int 512966536, .int 1023897200, .int 2043730736, .int 4079350272, .int 8142510336, .int 16252704512, .int 32440904961, .int 64753057801, .int 129249122354, .int 257985278172, .int 514946659144, .int 1027849587552]), .em, .em, .em, .em, .em, .em] := by kernel_rfl
theorem g3_8 (x0 : Slot) : G3 [x0, .pu (.int 8), .pu (.lst [.int 1, .int 2, .int 4, .int 8, .int 16, .int 32, .int 64, .int 128, .int 255, .int 509, .int 1016, .int 2028, .int 4048, .int 8080, .int 16128, .int 32192, .int 64256, .int 128257, .int 256005, .int 510994, .int 1019960, .int 2035872, .int 4063664, .int 8111200, .int 16190208, .int 32316160, .int 64504063, .int 128752121, .int 256993248, .int 512966536, .int 1023897200, .int 2043730736, .int 4079350272, .int 8142510336, .int 16252704512, .int 32440904961, .int 64753057801, .int 129249122354, .int 257985278172, .int 514946659144, .int 1027849587552]), .em, .em, .em, .em, .em, .em] = .nx [x0, .pu (.int 8), .pu (.lst [.int 1, .int 2, .int 4, .int 8, .int 16, .int 32, .int 64, .int 128, .int 255, .int 509, .int 1016, .int 2028, .int 4048, .int 8080, .int 16128, .int 32192, .int 64256, .int 128257, .int 256005, .int 510994, .int 1019960, .int 2035872, .int 4063664, .int 8111200, .int 16190208, .int 32316160, .int 64504063, .int 128752121, .int 256993248, .int 512966536, .int 1023897200, .int 2043730736, .int 4079350272, .int 8142510336, .int 16252704512, .int 32440904961, .int 64753057801, .int 129249122354, .int 257985278172, .int 514946659144, .int 1027849587552]), .pu (.int 40), .pu (.int 1027849587552), .em, .em, .em, .em] := by kernel_rfl
theorem g2_9 (x0 : Slot) : G2 [x0, .pu (.int 9), .em, .em, .em, .em, .em, .em, .em] = .nx [x0, .pu (.int 9), .pu (.lst [.int 1, .int 2, .int 4, .int 8, .int 16, .int 32, .int 64, .int 128, .int 256, .int 511, .int 1021, .int 2040, .int 4076, .int 8144, .int 16272, .int 32512, .int 64960, .int 129792, .int 259328, .int 518145, .int 1035269, .int 2068498, .int 4132920, .int 8257696, .int 16499120, .int 32965728, .int 65866496, .int 131603200, .int 262947072, .int 525375999, .int 1049716729, .int 2097364960, .int 4190597000, .int 8372936304, .int 16729373488, .int 33425781248, .int 66785696000, .int 133439788800, .int 266616630528, .int 532707885057, .int 1064366053385]), .em, .em, .em, .em, .em, .em] := by kernel_rfl
theorem g3_9 (x0 : Slot) : G3 [x0, .pu (.int 9), .pu (.lst [.int 1, .int 2, .int 4, .int 8, .int 16, .int 32, .int 64, .int 128, .int 256, .int 511, .int 1021, .int 2040, .int 4076, .int 8144, .int 16272, .int 32512, .int 64960, .int 129792, .int 259328, .int 518145, .int 1035269, .int 2068498, .int 4132920, .int 8257696, .int 16499120, .int 32965728, .int 65866496, .int 131603200, .int 262947072, .int 525375999, .int 1049716729, .int 2097364960, .int 4190597000, .int 8372936304, .int 16729373488, .int 33425781248, .int 66785696000, .int 133439788800, .int 266616630528, .int 532707885057, .int 1064366053385]), .em, .em, .em, .em, .em, .em] = .nx [x0, .pu (.int 9), .pu (.lst [.int 1, .int 2, .int 4, .int 8, .int 16, .int 32, .int 64, .int 128, .int 256, .int 511, .int 1021, .int 2040, .int 4076, .int 8144, .int 16272, .int 32512, .int 64960, .int 129792, .int 259328, .int 518145, .int 1035269, .int 2068498, .int 4132920, .int 8257696, .int 16499120, .int 32965728, .int 65866496, .int 131603200, .int 262947072, .int 525375999, .int 1049716729, .int 2097364960, .int 4190597000, .int 8372936304, .int 16729373488, .int 33425781248, .int 66785696000, .int 133439788800, .int 266616630528, .int 532707885057, .int 1064366053385]), .pu (.int 40), .pu (.int 1064366053385), .em, .em, .em, .em] := by kernel_rfl
theorem g2_10 (x0 : Slot) : G2 [x0, .pu (.int 10), .em, .em, .em, .em, .em, .em, .em] = .nx [x0, .pu (.int 10), .pu (.lst [.int 1, .int 2, .int 4, .int 8, .int 16, .int 32, .int 64, .int 128, .int 256, .int 512, .int 1023, .int 2045, .int 4088, .int 8172, .int 16336, .int 32656, .int 65280, .int 130496, .int 260864, .int 521472, .int 1042432, .int 2083841, .int 4165637, .int 8327186, .int 16646200, .int 33276064, .int 66519472, .int 132973664, .int 265816832, .int 531372800, .int 1062224128, .int 2123405824, .int 4244727807, .int 8485289977, .int 16962252768, .int 33907859336, .int 67782442608, .int 135498365744, .int 270863757824, .int 541461698816, .int 1082392024832]), .em, .em, .em, .em, .em, .em] := by kernel_rfl
theorem g3_10 (x0 : Slot) : G3 [x0, .pu (.int 10), .pu (.lst [.int 1, .int 2, .int 4, .int 8, .int 16, .int 32, .int 64, .int 128, .int 256, .int 512, .int 1023, .int 2045, .int 4088, .int 8172, .int 16336, .int 32656, .int 65280, .int 130496, .int 260864, .int 521472, .int 1042432, .int 2083841, .int 4165637, .int 8327186, .int 16646200, .int 33276064, .int 66519472, .int 132973664, .int 265816832, .int 531372800, .int 1062224128, .int 2123405824, .int 4244727807, .int 8485289977, .int 16962252768, .int 33907859336, .int 67782442608, .int 135498365744, .int 270863757824, .int 541461698816, .int 1082392024832]), .em, .em, .em, .em, .em, .em] = .nx [x0, .pu (.int 10), .pu (.lst [.int 1, .int 2, .int 4, .int 8, .int 16, .int 32, .int 64, .int 128, .int 256, .int 512, .int 1023, .int 2045, .int 4088, .int 8172, .int 16336, .int 32656, .int 65280, .int 130496, .int 260864, .int 521472, .int 1042432, .int 2083841, .int 4165637, .int 8327186, .int 16646200, .int 33276064, .int 66519472, .int 132973664, .int 265816832, .int 531372800, .int 1062224128, .int 2123405824, .int 4244727807, .int 8485289977, .int 16962252768, .int 33907859336, .int 67782442608, .int 135498365744, .int 270863757824, .int 541461698816, .int 1082392024832]), .pu (.int 40), .pu (.int 1082392024832), .em, .em, .em, .em] := by kernel_rfl
theorem g2_11 (x0 : Slot) : G2 [x0, .pu (.int 11), .em, .em, .em, .em, .em, .em, .em] = .nx [x0, .pu (.int 11), .pu (.lst [.int 1, .int 2, .int 4, .int 8, .int 16, .int 32, .int 64, .int 128, .int 256, .int 512, .int 1024, .int 2047, .int 4093, .int 8184, .int 16364, .int 32720, .int 65424, .int 130816, .int 261568, .int 523008, .int 1045760, .int 2091008, .int 4180992, .int 8359937, .int 16715781, .int 33423378, .int 66830392, .int 133628064, .int 267190704, .int 534250592, .int 1068239616, .int 2135956224, .int 4270866688, .int 8539642368, .int 17075103744, .int 34141847551, .int 68266979321, .int 136500535264, .int 272934240136, .int 545734852208, .int 1091202513712]), .em, .em, .em, .em, .em, .em] := by kernel_rfl
theorem g3_11 (x0 : Slot) : G3 [x0, .pu (.int 11), .pu (.lst [.int 1, .int 2, .int 4, .int 8, .int 16, .int 32, .int 64, .int 128, .int 256, .int 512, .int 1024, .int 2047, .int 4093, .int 8184, .int 16364, .int 32720, .int 65424, .int 130816, .int 261568, .int 523008, .int 1045760, .int 2091008, .int 4180992, .int 8359937, .int 16715781, .int 33423378, .int 66830392, .int 133628064, .int 267190704, .int 534250592, .int 1068239616, .int 2135956224, .int 4270866688, .int 8539642368, .int 17075103744, .int 34141847551, .int 68266979321, .int 136500535264, .int 272934240136, .int 545734852208, .int 1091202513712]), .em, .em, .em, .em, .em, .em] = .nx [x0, .pu (.int 11), .pu (.lst [.int 1, .int 2, .int 4, .int 8, .int 16, .int 32, .int 64, .int 128, .int 256, .int 512, .int 1024, .int 2047, .int 4093, .int 8184, .int 16364, .int 32720, .int 65424, .int 130816, .int 261568, .int 523008, .int 1045760, .int 2091008, .int 4180992, .int 8359937, .int 16715781, .int 33423378, .int 66830392, .int 133628064, .int 267190704, .int 534250592, .int 1068239616, .int 2135956224, .int 4270866688, .int 8539642368, .int 17075103744, .int 34141847551, .int 68266979321, .int 136500535264, .int 272934240136, .int 545734852208, .int 1091202513712]), .pu (.int 40), .pu (.int 1091202513712), .em, .em, .em, .em] := by kernel_rfl
theorem g2_12 (x0 : Slot) : G2 [x0, .pu (.int 12), .em, .em, .em, .em, .em, .em, .em] = .nx [x0, .pu (.int 12), .pu (.lst [.int 1, .int 2, .int 4, .int 8, .int 16, .int 32, .int 64, .int 128, .int 256, .int 512, .int 1024, .int 2048, .int 4095, .int 8189, .int 16376, .int 32748, .int 65488, .int 130960, .int 261888, .int 523712, .int 1047296, .int 2094336, .int 4188160, .int 8375296, .int 16748544, .int 33492993, .int 66977797, .int 133939218, .int 267845688, .int 535625888, .int 1071120816, .int 2141979744, .int 4283435776, .int 8565824256, .int 17129554176, .int 34254920192, .int 68501465088, .int 136986181632, .int 273938870271, .int 547810762745, .int 1095487586272]), .em, .em, .em, .em, .em, .em] := by kernel_rfl
theorem g3_12 (x0 : Slot) : G3 [x0, .pu (.int 12), .pu (.lst [.int 1, .int 2, .int 4, .int 8, .int 16, .int 32, .int 64, .int 128, .int 256, .int 512, .int 1024, .int 2048, .int 4095, .int 8189, .int 16376, .int 32748, .int 65488, .int 130960, .int 261888, .int 523712, .int 1047296, .int 2094336, .int 4188160, .int 8375296, .int 16748544, .int 33492993, .int 66977797, .int 133939218, .int 267845688, .int 535625888, .int 1071120816, .int 2141979744, .int 4283435776, .int 8565824256, .int 17129554176, .int 34254920192, .int 68501465088, .int 136986181632, .int 273938870271, .int 547810762745, .int 1095487586272]), .em, .em, .em, .em, .em, .em] = .nx [x0, .pu (.int 12), .pu (.lst [.int 1, .int 2, .int 4, .int 8, .int 16, .int 32, .int 64, .int 128, .int 256, .int 512, .int 1024, .int 2048, .int 4095, .int 8189, .int 16376, .int 32748, .int 65488, .int 130960, .int 261888, .int 523712, .int 1047296, .int 2094336, .int 4188160, .int 8375296, .int 16748544, .int 33492993, .int 66977797, .int 133939218, .int 267845688, .int 535625888, .int 1071120816, .int 2141979744, .int 4283435776, .int 8565824256, .int 17129554176, .int 34254920192, .int 68501465088, .int 136986181632, .int 273938870271, .int 547810762745, .int 1095487586272]), .pu (.int 40), .pu (.int 1095487586272), .em, .em, .em, .em] := by kernel_rfl
theorem mid (x0 : Slot) : ∀ k : Nat, 1 ≤ k → k ≤ 12 → ∃ x2 x4 : Slot, G2 [x0, .pu (.int (k : Int)), .em, .em, .em, .em, .em, .em, .em] = .nx [x0, .pu (.int (k : Int)), x2, .em, .em, .em, .em, .em, .em] ∧ G3 [x0, .pu (.int (k : Int)), x2, .em, .em, .em, .em, .em, .em] = .nx [x0, .pu (.int (k : Int)), x2, .pu (.int 40), x4, .em, .em, .em, .em] := by
  intro k h1 h2
  match k, h1, h2 with
  | 1, _, _ => exact ⟨_, _, g2_1 x0, g3_1 x0⟩
  | 2, _, _ => exact ⟨_, _, g2_2 x0, g3_2 x0⟩
  | 3, _, _ => exact ⟨_, _, g2_3 x0, g3_3 x0⟩
  | 4, _, _ => exact ⟨_, _, g2_4 x0, g3_4 x0⟩
  | 5, _, _ => exact ⟨_, _, g2_5 x0, g3_5 x0⟩
  | 6, _, _ => exact ⟨_, _, g2_6 x0, g3_6 x0⟩
  | 7, _, _ => exact ⟨_, _, g2_7 x0, g3_7 x0⟩
  | 8, _, _ => exact ⟨_, _, g2_8 x0, g3_8 x0⟩
  | 9, _, _ => exact ⟨_, _, g2_9 x0, g3_9 x0⟩
  | 10, _, _ => exact ⟨_, _, g2_10 x0, g3_10 x0⟩
  | 11, _, _ => exact ⟨_, _, g2_11 x0, g3_11 x0⟩
  | 12, _, _ => exact ⟨_, _, g2_12 x0, g3_12 x0⟩
abbrev rg2 : D := .lst [.int 4, .int 7, .int 11, .int 18, .int 29, .int 47, .int 76, .int 123, .int 199, .int 322, .int 521, .int 843, .int 1364, .int 2207, .int 3571, .int 5778, .int 9349, .int 15127, .int 24476, .int 39603, .int 64079, .int 103682, .int 167761, .int 271443, .int 439204, .int 710647, .int 1149851, .int 1860498, .int 3010349, .int 4870847, .int 7881196, .int 12752043, .int 20633239, .int 33385282, .int 54018521, .int 87403803, .int 141422324, .int 228826127]
abbrev tw2 : D := .lst [.int 1, .int 2, .int 3, .int 5, .int 8, .int 13, .int 21, .int 34, .int 55, .int 89, .int 144, .int 233, .int 377, .int 610, .int 987, .int 1597, .int 2584, .int 4181, .int 6765, .int 10946, .int 17711, .int 28657, .int 46368, .int 75025, .int 121393, .int 196418, .int 317811, .int 514229, .int 832040, .int 1346269, .int 2178309, .int 3524578, .int 5702887, .int 9227465, .int 14930352, .int 24157817, .int 39088169, .int 63245986, .int 102334155, .int 165580141, .int 267914296]
theorem g4 (x0 x1 x2 x4 : Slot) : sTg (tName 5) (eL (eComp [3] CS2__law_great_right CT2__law_great_right CP2__law_great_right CE2__law_great_right)) [x0, x1, x2, .pu (.int 40), x4, .em, .em, .em, .em] = .nx [x0, x1, x2, .pu (.int 40), x4, .pu rg2, .em, .em, .em] := by kernel_rfl
theorem g5 (x0 x1 x2 x4 x5 : Slot) : sTg (tName 6) (eL (eComp [3] CS3__law_great_right CT3__law_great_right CP3__law_great_right CE3__law_great_right)) [x0, x1, x2, .pu (.int 40), x4, x5, .em, .em, .em] = .nx [x0, x1, x2, .pu (.int 40), x4, x5, .pu tw2, .em, .em] := by kernel_rfl
theorem g6 (x0 x1 x2 x4 : Slot) : sIf (bOf (eOp dNe (eV 5) (eL (eComp [3] CS4__law_great_right CT4__law_great_right CP4__law_great_right CE4__law_great_right)))) (sRet (eC (.bl false))) (fun ε => .nx ε) [x0, x1, x2, .pu (.int 40), x4, .pu rg2, .pu tw2, .em, .em] = .nx [x0, x1, x2, .pu (.int 40), x4, .pu rg2, .pu tw2, .em, .em] := by kernel_rfl
structure Tn (n : Nat) : Prop where
  a : g_count_rings [.int (n : Int), .int (n : Int)] = .ok (.int ((2 ^ n : Nat) - 1 : Int))
  b : g_count_rows [.int (n : Int), .int (n : Int)] = .ok (.int ((2 ^ n : Nat) - 1 : Int))
  c : g_count_rows [.int (n : Int), .int 1] = .ok (.int 1)
  d : g_count_rings [.int (n : Int), .int 1] = .ok (.int 1)
  e : runI n 1 = List.replicate n 0 ++ [1]
  f : g__law_power [.int 2, .int (n : Int)] = .ok (.int (2 ^ n : Nat))
theorem tn1 : Tn 1 := ⟨by kernel_rfl, by kernel_rfl, by kernel_rfl, by kernel_rfl, by decide +kernel, by kernel_rfl⟩
theorem tn2 : Tn 2 := ⟨by kernel_rfl, by kernel_rfl, by kernel_rfl, by kernel_rfl, by decide +kernel, by kernel_rfl⟩
theorem tn3 : Tn 3 := ⟨by kernel_rfl, by kernel_rfl, by kernel_rfl, by kernel_rfl, by decide +kernel, by kernel_rfl⟩
theorem tn4 : Tn 4 := ⟨by kernel_rfl, by kernel_rfl, by kernel_rfl, by kernel_rfl, by decide +kernel, by kernel_rfl⟩
theorem tn5 : Tn 5 := ⟨by kernel_rfl, by kernel_rfl, by kernel_rfl, by kernel_rfl, by decide +kernel, by kernel_rfl⟩
theorem tn6 : Tn 6 := ⟨by kernel_rfl, by kernel_rfl, by kernel_rfl, by kernel_rfl, by decide +kernel, by kernel_rfl⟩
theorem tn7 : Tn 7 := ⟨by kernel_rfl, by kernel_rfl, by kernel_rfl, by kernel_rfl, by decide +kernel, by kernel_rfl⟩
theorem tn8 : Tn 8 := ⟨by kernel_rfl, by kernel_rfl, by kernel_rfl, by kernel_rfl, by decide +kernel, by kernel_rfl⟩
theorem tn9 : Tn 9 := ⟨by kernel_rfl, by kernel_rfl, by kernel_rfl, by kernel_rfl, by decide +kernel, by kernel_rfl⟩
theorem tn10 : Tn 10 := ⟨by kernel_rfl, by kernel_rfl, by kernel_rfl, by kernel_rfl, by decide +kernel, by kernel_rfl⟩
theorem tn11 : Tn 11 := ⟨by kernel_rfl, by kernel_rfl, by kernel_rfl, by kernel_rfl, by decide +kernel, by kernel_rfl⟩
theorem tn12 : Tn 12 := ⟨by kernel_rfl, by kernel_rfl, by kernel_rfl, by kernel_rfl, by decide +kernel, by kernel_rfl⟩
theorem tn : ∀ n : Nat, 1 ≤ n → n ≤ 12 → Tn n := by
  intro n h1 h2
  match n, h1, h2 with
  | 1, _, _ => exact tn1
  | 2, _, _ => exact tn2
  | 3, _, _ => exact tn3
  | 4, _, _ => exact tn4
  | 5, _, _ => exact tn5
  | 6, _, _ => exact tn6
  | 7, _, _ => exact tn7
  | 8, _, _ => exact tn8
  | 9, _, _ => exact tn9
  | 10, _, _ => exact tn10
  | 11, _, _ => exact tn11
  | 12, _, _ => exact tn12
theorem plain_pD (m : Nat) (P : List Int) (h : P.length ≤ 1000000) : Plain (m + 2) (pD P) := .tup _ _ (fun d hd => by
  obtain ⟨i, _, rfl⟩ := List.mem_map.mp hd
  exact .int _ _) (by unfold toI; rw [List.length_map]; exact h)
theorem great_ok (a b : Int) : ∃ (a' b' : Int), g__law_great_right [.int a, .int b] [] = .ok (.bl true, [.int a', .int b']) := by
  obtain ⟨r, a1, b1, hr', e1⟩ := roll_ok a b 12 12 rfl (by decide) (by decide)
  obtain ⟨s, a2, b2, hs', e2⟩ := roll_ok a1 b1 12 12 rfl (by decide) (by decide)
  obtain ⟨k, hk⟩ : ∃ k, k = 1 + r := ⟨_, rfl⟩
  obtain ⟨n, hn⟩ : ∃ n, n = 1 + s := ⟨_, rfl⟩
  have ck : 1 + (r : Int) = (k : Int) := by omega
  have cn : 1 + (s : Int) = (n : Int) := by omega
  obtain ⟨x2, x4, m2, m3⟩ := mid (.ow [.int a1, .int b1]) k (by omega) (by omega)
  have T := tn n (by omega) (by omega)
  have rl := run_long (k - 1) (by omega)
  rw [show k - 1 + 1 = k by omega] at rl
  have p30 := run_ok (n := 30) (k := k) (by decide) (by omega) (by omega)
  have pn := run_ok (n := n) (k := 1) (by omega) (by decide) (by decide)
  rw [T.e] at pn
  let cs1 : List D := [.int a1, .int b1]
  let cs2 : List D := [.int a2, .int b2]
  let kk : Slot := .pu (.int (k : Int))
  let w : Int := ((2 ^ n : Nat) : Int)
  let t1 : List D := [.int (w - 1), .int (w - 1), .int 1, .int 1, pD (List.replicate n 0 ++ [1])]
  let t2 : D := .lst (t1 ++ [.bl true])
  refine ⟨a2, b2, ?_⟩
  have st : startC 9 [D.int a, D.int b] [] = [.ow [.int a, .int b], .em, .em, .em, .em, .em, .em, .em, .em] := rfl
  show outC (b__law_great_right (startC 9 [D.int a, D.int b] [])) = _
  rw [st]
  unfold b__law_great_right
  refine outC_seq (ε1 := [.ow cs1, kk, .em, .em, .em, .em, .em, .em, .em]) ?_ ?_
  · show _ = Out.nx [.ow cs1, .pu (.int (k : Int)), .em, .em, .em, .em, .em, .em, .em]
    rw [← ck]
    exact sTg_ok (eOp_ok (by rfl) (callC_ok (by rfl) (by rfl) (by rfl) e1 (by rfl)) (by rfl)) (by rfl)
  refine outC_seq m2 ?_
  refine outC_seq m3 ?_
  refine outC_seq (g4 _ _ _ _) ?_
  refine outC_seq (g5 _ _ _ _ _) ?_
  refine outC_seq (g6 _ _ _ _) ?_
  generalize rg2 = y5
  generalize tw2 = y6
  refine outC_seq (ε1 := [.ow cs2, kk, x2, .pu (.int (n : Int)), x4, .pu y5, .pu y6, .em, .em]) ?_ ?_
  · rw [← cn]
    exact sTg_ok (eOp_ok (by rfl) (callC_ok (by rfl) (by rfl) (by rfl) e2 (by rfl)) (by rfl)) (by rfl)
  refine outC_seq (ε1 := [.ow cs2, kk, x2, .pu (.int (n : Int)), x4, .pu y5, .pu y6, .pu (.lst t1), .em]) (sTg_ok (eL_ok (aCons_ok (eCB_ok (by rfl) T.a) (aCons_ok (eCB_ok (by rfl) T.b) (aCons_ok (eCB_ok (by rfl) T.c) (aCons_ok (eCB_ok (by rfl) T.d) (aCons_ok (eCB_ok (by rfl) pn) aNil_ok)))))) rfl) ?_
  have fl : fLen [pD (runI 30 k)] = .ok (.int ((runI 30 k).length : Int)) := by show Res.ok (D.int ((toI (runI 30 k)).length : Int)) = _; unfold toI; rw [List.length_map]
  have gt : dGt (.int ((runI 30 k).length : Int)) (.int 1) = .ok (.bl true) := by
    show Res.ok (D.bl (decide ((1 : Int) < ((runI 30 k).length : Int)))) = _
    rw [decide_eq_true (by omega)]
  refine outC_seq (ε1 := [.ow cs2, kk, x2, .pu (.int (n : Int)), x4, .pu y5, .pu y6, .pu t2, .em]) (sTg_ok (eOp_ok (by rfl) (eL_ok (aCons_ok (eOp_ok (eCB_ok (aCons_ok (eCB_ok (by rfl) p30) (by rfl)) fl) (by rfl) gt) aNil_ok)) (by rfl)) rfl) ?_
  refine outC_seq (ε1 := [.ow cs2, kk, x2, .pu (.int (n : Int)), x4, .pu y5, .pu y6, .pu t2, .pu (.int w)]) (sTg_ok (eCB_ok (by rfl) T.f) rfl) ?_
  have rp := rep_tup (.int 0) (m := n) (by omega)
  have ad : dAdd (.tup (List.replicate n (.int 0))) (.tup [.int 1]) = .ok (pD (List.replicate n 0 ++ [1])) := by
    rw [add_tup (by rw [List.length_replicate]; simp; omega)]
    unfold pD toI
    rw [List.map_append, List.map_replicate]
    rfl
  exact outC_ret (ε1 := [.ow cs2, kk, x2, .pu (.int (n : Int)), x4, .pu y5, .pu y6, .pu t2, .pu (.int w)]) (eCB_ok (ds := [t2, t2]) (aCons_ok (by rfl) (aCons_ok (eL_ok (aCons_ok (by rfl) (aCons_ok (by rfl) (aCons_ok (by rfl) (aCons_ok (by rfl) (aCons_ok (eOp_ok (eOp_ok (by rfl) (by rfl) rp) (by rfl) ad) (by rfl))))))) (by rfl))) (like_l _ (fun d hd => by
    simp only [t1, List.cons_append, List.nil_append, List.mem_cons, List.not_mem_nil, or_false] at hd
    rcases hd with rfl | rfl | rfl | rfl | rfl | rfl
    · exact .int _ _
    · exact .int _ _
    · exact .int _ _
    · exact .int _ _
    · exact plain_pD _ _ (by simp; omega)
    · exact .bl _ _) (by simp [t1]))) rfl
end W41
namespace W41
open PySem L2 PL
abbrev av : D := .tup [.tup [.int 1, .int 2], .tup [.int 1, .int 3], .tup [.int 1, .int 4]]
theorem y1 : g_row_without [av, .int 2] = .ok (.tup [.int 5, .int 12]) := by kernel_rfl
theorem y2 : g_ring_without [av, .int 2] = .ok (.tup [.int 7, .int 24]) := by kernel_rfl
theorem y3 : g_row_without [av, .int 1] = .ok (.tup [.int 1, .int 24]) := by kernel_rfl
theorem y4 : g_ring_without [av, .int 3] = .ok (.tup [.int 3, .int 4]) := by kernel_rfl
theorem y5 : g_row_without [av, .int 4] = .ok (.tup [.int 1, .int 1]) := by kernel_rfl
theorem y6 : g_count_rows [.int 4, .int 2] = .ok (.int 8) := by kernel_rfl
theorem y7 : g_count_rings [.int 4, .int 2] = .ok (.int 7) := by kernel_rfl
theorem y8 : g_run_polynomial [.int 3, .int 2] = .ok (.tup [.int 0, .int 1, .int 1, .int (-1)]) := by kernel_rfl
theorem y9 : g_count_rows [.int 0, .int 1] = .ok (.int 1) := by kernel_rfl
theorem y10 : g_count_rings [.int 2, .int 3] = .ok (.int 4) := by kernel_rfl
theorem y11 : g_run_polynomial [.int 2, .int 1] = .ok (.tup [.int 0, .int 0, .int 1]) := by kernel_rfl
theorem y12 : g_row_without [.tup [.tup [.int 1, .int 2], .tup [.int 0, .int 1], .tup [.int 1, .int 4]], .int 2] = .ok (.tup [.int 1, .int 8]) := by kernel_rfl
theorem y13 : g_ring_without [.tup [.tup [.int 1, .int 2], .tup [.int 1, .int 3], .tup [.int 1, .int 4], .tup [.int 1, .int 1]], .int 2] = .ok (.tup [.int 5, .int 12]) := by kernel_rfl
theorem y14 : g_row_without [.tup [.tup [.int 0, .int 1], .tup [.int 1, .int 3], .tup [.int 1, .int 4]], .int 2] = .ok (.tup [.int 1, .int 3]) := by kernel_rfl
theorem y15 : g_row_without [.tup [.tup [.int 1, .int 2], .tup [.int 1, .int 3], .tup [.int 0, .int 1]], .int 2] = .ok (.tup [.int 1, .int 3]) := by kernel_rfl
theorem y16 : g_row_without [.tup [], .int 1] = .ok (.tup [.int 1, .int 1]) := by kernel_rfl
theorem y17 : g_ring_without [.tup [], .int 1] = .ok (.tup [.int 1, .int 1]) := by kernel_rfl
theorem y18 : g_ring_without [.tup [.tup [.int 1, .int 3]], .int 1] = .ok (.tup [.int 1, .int 3]) := by kernel_rfl
theorem y19 : g_ring_without [.tup [.tup [.int 1, .int 3]], .int 2] = .ok (.tup [.int 1, .int 1]) := by kernel_rfl
theorem y20 : g_run_polynomial [.int 0, .int 3] = .ok (.tup [.int 1]) := by kernel_rfl
theorem y21 : g_count_rings [.int 3, .int 2] = .ok (.int 4) := by kernel_rfl
theorem y22 : g_count_rings [.int 0, .int 1] = .ok (.int 1) := by kernel_rfl
abbrev told1 : List D := [.tup [.int 5, .int 12], .tup [.int 7, .int 24], .tup [.int 1, .int 24], .tup [.int 3, .int 4], .tup [.int 1, .int 1]]
abbrev told2 : List D := told1 ++ [.int 8, .int 7]
abbrev told3 : List D := told2 ++ [.tup [.int 0, .int 1, .int 1, .int (-1)], .int 1, .int 4, .tup [.int 0, .int 0, .int 1]]
abbrev told4 : List D := told3 ++ [.tup [.int 1, .int 8]]
abbrev told5 : List D := told4 ++ [.tup [.int 5, .int 12]]
abbrev told6 : List D := told5 ++ [.tup [.int 1, .int 3], .tup [.int 1, .int 3]]
abbrev told7 : List D := told6 ++ [.tup [.int 1, .int 1], .tup [.int 1, .int 1]]
abbrev told8 : List D := told7 ++ [.tup [.int 1, .int 3], .tup [.int 1, .int 1], .tup [.int 1], .int 4]
abbrev told9 : List D := told8 ++ [.int 1]
abbrev due1 : List D := [.tup [.int 5, .int 12], .tup [.int 7, .int 24], .tup [.int 1, .int 24], .tup [.int 3, .int 4], .tup [.int 1, .int 1], .int 8, .int 7, .tup [.int 0, .int 1, .int 1, .int (-1)], .int 1, .int 4, .tup [.int 0, .int 0, .int 1], .tup [.int 1, .int 8], .tup [.int 5, .int 12]]
abbrev due2 : List D := due1 ++ [.tup [.int 1, .int 3], .tup [.int 1, .int 3], .tup [.int 1, .int 1], .tup [.int 1, .int 1], .tup [.int 1, .int 3], .tup [.int 1, .int 1], .tup [.int 1], .int 4, .int 1]
theorem l1 : g__law_like 12 [.lst told9, .lst due2] = .ok (.bl true) := by kernel_rfl
def S (ns : List Int) (cs : List D) (t : Slot) : Ev := [.pu (.scr ns), .ow cs, t, .em, .em, .em]
theorem turn_ok (ns : List Int) (a b : Int) (t : Slot) : ∃ (a' b' : Int), B1_law (S ns [.int a, .int b] t) = .nx (S ns [.int a', .int b'] t) := by
  obtain ⟨r, a1, b1, hr', e1⟩ := roll_ok a b 8 8 rfl (by decide) (by decide)
  obtain ⟨a2, b2, e2⟩ := right_ok a1 b1 r (by omega)
  refine ⟨a2, b2, sIfN_ok (ε1 := S ns [.int a2, .int b2] t) (callC_ok (by rfl) (aCons_ok (callC_ok (by rfl) (by rfl) (by rfl) e1 (by rfl)) (by rfl)) (by rfl) e2 (by rfl))⟩
theorem turns_ok (ns : List Int) : ∀ (xs : List D) (a b : Int) (t : Slot), ∃ (a' b' : Int) (t' : Slot), forF T1_law B1_law xs (S ns [.int a, .int b] t) = .nx (S ns [.int a', .int b'] t')
  | [], a, b, t => ⟨a, b, t, rfl⟩
  | x :: xs, a, b, t => by
    obtain ⟨a1, b1, e1⟩ := turn_ok ns a b (.pu x)
    obtain ⟨a2, b2, t2, e2⟩ := turns_ok ns xs a1 b1 (.pu x)
    refine ⟨a2, b2, t2, ?_⟩
    have t1 : T1_law x (S ns [.int a, .int b] t) = .ok (S ns [.int a, .int b] (.pu x)) := rfl
    simp only [forF, t1, Res.ne, e1, e2]
theorem law_true (ns : List Int) (hl : ns.length ≤ 63) : g_law [.scr ns] = .ok (.bl true) := by
  obtain ⟨a0, b0, e0⟩ := cup_ok ns hl
  obtain ⟨a2, b2, s2, e2⟩ := turns_ok ns [.int 0, .int 1, .int 2, .int 3, .int 4, .int 5] a0 b0 .em
  obtain ⟨a3, b3, e3⟩ := great_ok a2 b2
  show outRes (b_law (startE 6 [.scr ns])) = _
  have st : startE 6 [.scr ns] = [.pu (.scr ns), .em, .em, .em, .em, .em] := rfl
  rw [st]
  unfold b_law
  refine out_seq (ε1 := S ns [.int a0, .int b0] .em) ?_ ?_
  · have v0 : aCons (eV 0) aNil [.pu (.scr ns), .em, .em, .em, .em, .em] = .ok ([.scr ns], [.pu (.scr ns), .em, .em, .em, .em, .em]) := rfl
    simp only [sOwn, eCallN, v0, e0, Res.bind_ok, Res.ne, Res.out]
    rfl
  refine out_seq (ε1 := S ns [.int a2, .int b2] s2) ?_ ?_
  · have src : S1_law (S ns [.int a0, .int b0] .em) = .ok ([.int 0, .int 1, .int 2, .int 3, .int 4, .int 5], S ns [.int a0, .int b0] .em) := by kernel_rfl
    exact sFor_ok src e2
  unfold S
  generalize Slot.pu (D.scr ns) = x0
  let x1 : Slot := .ow [D.int a2, D.int b2]
  refine out_seq (ε1 := [x0, x1, s2, .pu av, .em, .em]) (by rfl) ?_
  refine out_seq (ε1 := [x0, x1, s2, .pu av, .pu (.lst told1), .em]) (sTg_ok (eL_ok (aCons_ok (eCB_ok (by rfl) W41.y1) (aCons_ok (eCB_ok (by rfl) W41.y2) (aCons_ok (eCB_ok (by rfl) W41.y3) (aCons_ok (eCB_ok (by rfl) W41.y4) (aCons_ok (eCB_ok (by rfl) W41.y5) aNil_ok)))))) rfl) ?_
  refine out_seq (ε1 := [x0, x1, s2, .pu av, .pu (.lst told2), .em]) (sTg_ok (eOp_ok (a := .lst told1) rfl (eL_ok (aCons_ok (eCB_ok (by rfl) W41.y6) (aCons_ok (eCB_ok (by rfl) W41.y7) aNil_ok))) rfl) rfl) ?_
  refine out_seq (ε1 := [x0, x1, s2, .pu av, .pu (.lst told3), .em]) (sTg_ok (eOp_ok (a := .lst told2) rfl (eL_ok (aCons_ok (eCB_ok (by rfl) W41.y8) (aCons_ok (eCB_ok (by rfl) W41.y9) (aCons_ok (eCB_ok (by rfl) W41.y10) (aCons_ok (eCB_ok (by rfl) W41.y11) aNil_ok))))) rfl) rfl) ?_
  refine out_seq (ε1 := [x0, x1, s2, .pu av, .pu (.lst told4), .em]) (sTg_ok (eOp_ok (a := .lst told3) rfl (eL_ok (aCons_ok (eCB_ok (by rfl) W41.y12) aNil_ok)) rfl) rfl) ?_
  refine out_seq (ε1 := [x0, x1, s2, .pu av, .pu (.lst told5), .em]) (sTg_ok (eOp_ok (a := .lst told4) rfl (eL_ok (aCons_ok (eCB_ok (by rfl) W41.y13) aNil_ok)) rfl) rfl) ?_
  refine out_seq (ε1 := [x0, x1, s2, .pu av, .pu (.lst told6), .em]) (sTg_ok (eOp_ok (a := .lst told5) rfl (eL_ok (aCons_ok (eCB_ok (by rfl) W41.y14) (aCons_ok (eCB_ok (by rfl) W41.y15) aNil_ok))) rfl) rfl) ?_
  refine out_seq (ε1 := [x0, x1, s2, .pu av, .pu (.lst told7), .em]) (sTg_ok (eOp_ok (a := .lst told6) rfl (eL_ok (aCons_ok (eCB_ok (by rfl) W41.y16) (aCons_ok (eCB_ok (by rfl) W41.y17) aNil_ok))) rfl) rfl) ?_
  refine out_seq (ε1 := [x0, x1, s2, .pu av, .pu (.lst told8), .em]) (sTg_ok (eOp_ok (a := .lst told7) rfl (eL_ok (aCons_ok (eCB_ok (by rfl) W41.y18) (aCons_ok (eCB_ok (by rfl) W41.y19) (aCons_ok (eCB_ok (by rfl) W41.y20) (aCons_ok (eCB_ok (by rfl) W41.y21) aNil_ok))))) rfl) rfl) ?_
  refine out_seq (ε1 := [x0, x1, s2, .pu av, .pu (.lst told9), .em]) (sTg_ok (eOp_ok (a := .lst told8) rfl (eL_ok (aCons_ok (eCB_ok (by rfl) W41.y22) aNil_ok)) rfl) rfl) ?_
  have l1 := W41.l1
  generalize D.lst told9 = x5 at l1 ⊢
  refine out_seq (ε1 := [x0, x1, s2, .pu av, .pu x5, .pu (.lst due1)]) (by rfl) ?_
  refine out_seq (ε1 := [x0, x1, s2, .pu av, .pu x5, .pu (.lst due2)]) (by rfl) ?_
  generalize D.lst due2 = x9 at l1 ⊢
  refine out_ret (d := .bl true) (ε1 := [x0, .ow [D.int a3, D.int b3], s2, .pu av, .pu x5, .pu x9]) ?_
  have c1 : eCB (g__law_like 12) (aCons (eV 4) (aCons (eV 5) aNil)) [x0, x1, s2, .pu av, .pu x5, .pu x9] = .ok (.bl true, [x0, x1, s2, .pu av, .pu x5, .pu x9]) := eCB_ok (ds := [x5, x9]) rfl l1
  have c2 : eCallC 1 g__law_great_right aNil [x0, x1, s2, .pu av, .pu x5, .pu x9] = .ok (.bl true, [x0, .ow [D.int a3, D.int b3], s2, .pu av, .pu x5, .pu x9]) := callC_ok (by rfl) (by rfl) (by rfl) e3 (by rfl)
  show eAnd _ _ [x0, x1, s2, .pu av, .pu x5, .pu x9] = _
  simp only [eAnd, c1, c2, eCall0, errors_ok, Res.bind_ok, asB, if_true]
end W41
open PySem PySem.W PyProof.Rows
set_option maxHeartbeats 0 in
theorem PySem.Challenge.cw_roadsfail_k41_whole_bad_runs_holds : PySem.Challenge.rw_roadsfail_k41_whole_bad_runs.Holds := by
  w_on; o_law; k_head; (case hw => w_witness2)
  k_fill
  refine LamX.walk_ofTs (l := PySem.Challenge.rw_roadsfail_k41_whole_bad_runs) (n := 63) (k := 16) (x := "script") (CX := fun w => L2N.CX (PySem.Challenge.rw_roadsfail_k41_whole_bad_runs).prog w) rfl (by decide) rfl ⟨rfl, by decide, by decide⟩ (fun w h Y => PySem.W.km_in_of Y) ?F (fun _ _ _ _ _ h => ?X)
  case X => obtain ⟨_, _, _, _, _, _, _, _, _, _, _, _, z⟩ := h; exact z
  case F =>
    intro w mg fa h Y KX G hmg
    refine' W41.all_mk W41.law_true KX G hmg ?a0 ?l0 ?c0 ?k0 ?a1 ?l1 ?c1 ?k1 ?a2 ?l2 ?c2 ?k2 ?a3 ?l3 ?c3 ?k3 ?a4 ?l4 ?c4 ?k4 ?a5 ?l5 ?c5 ?k5 ?a6 ?l6 ?c6 ?k6 ?a7 ?l7 ?c7 ?k7 ?a8 ?l8 ?c8 ?k8 ?a9 ?l9 ?c9 ?k9 ?a10 ?l10 ?c10 ?k10 ?a11 ?l11 ?c11 ?k11 ?a12 ?l12 ?c12 ?k12 ?a13 ?l13 ?c13 ?k13 ?a14 ?l14 ?c14 ?k14 ?a15 ?l15 ?c15 ?k15 ?a16 ?l16 ?c16 ?k16 ?a17 ?l17 ?c17 ?k17 ?a18 ?l18 ?c18 ?k18 ?a19 ?l19 ?c19 ?k19 ?a20 ?l20 ?c20 ?k20 ?a21 ?l21 ?c21 ?k21 ?a22 ?l22 ?c22 ?k22 ?a23 ?l23 ?c23 ?k23 ?a24 ?l24 ?c24 ?k24 ?a25 ?l25 ?c25 ?k25 ?a26 ?l26 ?c26 ?k26 ?a27 ?l27 ?c27 ?k27 ?a28 ?l28 ?c28 ?k28 ?a29 ?l29 ?c29 ?k29 ?a30 ?l30 ?c30 ?k30 ?a31 ?l31 ?c31 ?k31 ?a32 ?l32 ?c32 ?k32 ?a33 ?l33 ?c33 ?k33 ?a34 ?l34 ?c34 ?k34 ?a35 ?l35 ?c35 ?k35 ?a36 ?l36 ?c36 ?k36 ?a37 ?l37 ?c37 ?k37 ?a38 ?l38 ?c38 ?k38 ?a39 ?l39 ?c39 ?k39 ?a40 ?l40 ?c40 ?k40 ?a41 ?l41 ?c41 ?k41 ?a42 ?l42 ?c42 ?k42 ?a43 ?l43 ?c43 ?k43 ?a44 ?l44 ?c44 ?k44 ?a45 ?l45 ?c45 ?k45 ?a46 ?l46 ?c46 ?k46 ?tb46 ?tc46 ?ch46 ?nl46 ?hp46 ?a47 ?l47 ?c47 ?k47 ?nd ?z_isinstance ?z_int ?z_bool ?z_tuple ?z_len ?z_all ?z_max ?z_list ?z_zip ?z_enumerate ?z_range ?z_sum ?z_abs ?z_str ?m_gcd ?c_GREAT ?c_BOTTOM ?c_PARTS ?c_LONG_polynomials ?c_PART ?c_RUN ?c_LONG_badruns ?c_MOST ?ea0 ?eb0 ?ec0 ?ed0 ?ee0 ?ea1 ?eb1 ?ec1 ?ed1 ?ee1 ?ea2 ?eb2 ?ec2 ?ed2 ?ee2 ?ea3 ?eb3 ?ec3 ?ed3 ?ee3 ?ra ?xg0 ?xk0 ?xs0 ?xd0 ?xa0 ?xm0 ?xg1 ?xk1 ?xs1 ?xd1 ?xa1 ?xm1 ?xg2 ?xk2 ?xs2 ?xd2 ?xa2 ?xm2 ?xg3 ?xk3 ?xs3 ?xd3 ?xa3 ?xm3 ?xn ?xt ?q0_0 ?q0_1 ?q0_2 ?q0_3 ?w0 ?q1_0 ?q1_1 ?q1_2 ?q1_3 ?w1 ?q2_0 ?q2_1 ?q2_2 ?q2_3 ?w2 ?q3_0 ?q3_1 ?q3_2 ?q3_3 ?w3
    (case a0 => k_is); (case l0 => k_is); (case c0 => k_is); (case k0 => k_is); (case a1 => k_is); (case l1 => k_is); (case c1 => k_is); (case k1 => k_is)
    (case a2 => k_is); (case l2 => k_is); (case c2 => k_is); (case k2 => k_is); (case a3 => k_is); (case l3 => k_is); (case c3 => k_is); (case k3 => k_is)
    (case a4 => k_is); (case l4 => k_is); (case c4 => k_is); (case k4 => k_is); (case a5 => k_is); (case l5 => k_is); (case c5 => k_is); (case k5 => k_is)
    (case a6 => k_is); (case l6 => k_is); (case c6 => k_is); (case k6 => k_is); (case a7 => k_is); (case l7 => k_is); (case c7 => k_is); (case k7 => k_is)
    (case a8 => k_is); (case l8 => k_is); (case c8 => k_is); (case k8 => k_is); (case a9 => k_is); (case l9 => k_is); (case c9 => k_is); (case k9 => k_is)
    (case a10 => k_is); (case l10 => k_is); (case c10 => k_is); (case k10 => k_is); (case a11 => k_is); (case l11 => k_is); (case c11 => k_is); (case k11 => k_is)
    (case a12 => k_is); (case l12 => k_is); (case c12 => k_is); (case k12 => k_is); (case a13 => k_is); (case l13 => k_is); (case c13 => k_is); (case k13 => k_is)
    (case a14 => k_is); (case l14 => k_is); (case c14 => k_is); (case k14 => k_is); (case a15 => k_is); (case l15 => k_is); (case c15 => k_is); (case k15 => k_is)
    (case a16 => k_is); (case l16 => k_is); (case c16 => k_is); (case k16 => k_is); (case a17 => k_is); (case l17 => k_is); (case c17 => k_is); (case k17 => k_is)
    (case a18 => k_is); (case l18 => k_is); (case c18 => k_is); (case k18 => k_is); (case a19 => k_is); (case l19 => k_is); (case c19 => k_is); (case k19 => k_is)
    (case a20 => k_is); (case l20 => k_is); (case c20 => k_is); (case k20 => k_is); (case a21 => k_is); (case l21 => k_is); (case c21 => k_is); (case k21 => k_is)
    (case a22 => k_is); (case l22 => k_is); (case c22 => k_is); (case k22 => k_is); (case a23 => k_is); (case l23 => k_is); (case c23 => k_is); (case k23 => k_is)
    (case a24 => k_is); (case l24 => k_is); (case c24 => k_is); (case k24 => k_is); (case a25 => k_is); (case l25 => k_is); (case c25 => k_is); (case k25 => k_is)
    (case a26 => k_is); (case l26 => k_is); (case c26 => k_is); (case k26 => k_is); (case a27 => k_is); (case l27 => k_is); (case c27 => k_is); (case k27 => k_is)
    (case a28 => k_is); (case l28 => k_is); (case c28 => k_is); (case k28 => k_is); (case a29 => k_is); (case l29 => k_is); (case c29 => k_is); (case k29 => k_is)
    (case a30 => k_is); (case l30 => k_is); (case c30 => k_is); (case k30 => k_is); (case a31 => k_is); (case l31 => k_is); (case c31 => k_is); (case k31 => k_is)
    (case a32 => k_is); (case l32 => k_is); (case c32 => k_is); (case k32 => k_is); (case a33 => k_is); (case l33 => k_is); (case c33 => k_is); (case k33 => k_is)
    (case a34 => k_is); (case l34 => k_is); (case c34 => k_is); (case k34 => k_is); (case a35 => k_is); (case l35 => k_is); (case c35 => k_is); (case k35 => k_is)
    (case a36 => k_is); (case l36 => k_is); (case c36 => k_is); (case k36 => k_is); (case a37 => k_is); (case l37 => k_is); (case c37 => k_is); (case k37 => k_is)
    (case a38 => k_is); (case l38 => k_is); (case c38 => k_is); (case k38 => k_is); (case a39 => k_is); (case l39 => k_is); (case c39 => k_is); (case k39 => k_is)
    (case a40 => k_is); (case l40 => k_is); (case c40 => k_is); (case k40 => k_is); (case a41 => k_is); (case l41 => k_is); (case c41 => k_is); (case k41 => k_is)
    (case a42 => k_is); (case l42 => k_is); (case c42 => k_is); (case k42 => k_is); (case a43 => k_is); (case l43 => k_is); (case c43 => k_is); (case k43 => k_is)
    (case a44 => k_is); (case l44 => k_is); (case c44 => k_is); (case k44 => k_is); (case a45 => k_is); (case l45 => k_is); (case c45 => k_is); (case k45 => k_is)
    (case a46 => k_is); (case l46 => k_is); (case c46 => k_is); (case k46 => k_is); (case tb46 => k_is); (case tc46 => rfl); (case a47 => k_is); (case l47 => k_is)
    (case c47 => k_is); (case k47 => k_is); (case z_isinstance => k_is); (case z_int => k_is); (case z_bool => k_is); (case z_tuple => k_is); (case z_len => k_is); (case z_all => k_is)
    (case z_max => k_is); (case z_list => k_is); (case z_zip => k_is); (case z_enumerate => k_is); (case z_range => k_is); (case z_sum => k_is); (case z_abs => k_is); (case z_str => k_is)
    (case m_gcd => k_is); (case c_GREAT => k_is); (case c_BOTTOM => k_is); (case c_PARTS => k_is); (case c_LONG_polynomials => k_is); (case c_PART => k_is); (case c_RUN => k_is); (case c_LONG_badruns => k_is)
    (case c_MOST => k_is); (case ea0 => k_is); (case eb0 => k_exc); (case ec0 => k_is); (case ed0 => k_is); (case ee0 => k_is); (case ea1 => k_is); (case eb1 => k_exc)
    (case ec1 => k_is); (case ed1 => k_is); (case ee1 => k_is); (case ea2 => k_is); (case eb2 => k_exc); (case ec2 => k_is); (case ed2 => k_is); (case ee2 => k_is)
    (case ea3 => k_is); (case eb3 => k_exc); (case ec3 => k_is); (case ed3 => k_is); (case ee3 => k_is); (case ra => k_is); (case xg0 => k_is); (case xk0 => k_is)
    (case xs0 => k_is); (case xd0 => k_is); (case xa0 => k_is); (case xm0 => k_is); (case xg1 => k_is); (case xk1 => k_is); (case xs1 => k_is); (case xd1 => k_is)
    (case xa1 => k_is); (case xm1 => k_is); (case xg2 => k_is); (case xk2 => k_is); (case xs2 => k_is); (case xd2 => k_is); (case xa2 => k_is); (case xm2 => k_is)
    (case xg3 => k_is); (case xk3 => k_is); (case xs3 => k_is); (case xd3 => k_is); (case xa3 => k_is); (case xm3 => k_is); (case xn => k_is); (case xt => k_is)
    (case ch46 => kernel_rfl); (case nl46 => kernel_rfl); (case hp46 => exact PySem.W.km_tabs_of Y _ (by simp)); (case nd => decide); (case q0_0 => kernel_rfl); (case q0_1 => kernel_rfl); (case q0_2 => kernel_rfl); (case q0_3 => kernel_rfl)
    (case w0 => kernel_rfl); (case q1_0 => kernel_rfl); (case q1_1 => kernel_rfl); (case q1_2 => kernel_rfl); (case q1_3 => kernel_rfl); (case w1 => kernel_rfl); (case q2_0 => kernel_rfl); (case q2_1 => kernel_rfl)
    (case q2_2 => kernel_rfl); (case q2_3 => kernel_rfl); (case w2 => kernel_rfl); (case q3_0 => kernel_rfl); (case q3_1 => kernel_rfl); (case q3_2 => kernel_rfl); (case q3_3 => kernel_rfl); (case w3 => kernel_rfl)
